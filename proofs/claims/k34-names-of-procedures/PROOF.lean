import PyProof.Rows.All
import Wide.All
import OpenK.AllK
import Wide.FinOn
import HandS.ForMost
import HandS.Deep
import HandS.TupAny
import HandS.TupMul
import HandS.TupLe
import HandS.Style
import HandS.Flow
import HandS.Zip
import HandS.Walk
import HandS.IsInst
import HandS.ForExc
import HandS.Defaults
import PyProof.StrOps2
import HandS.Iter
import HandS.Zip0
import PyProof.EnumMake
import PyProof.Draws
import HandS.Small
import HandS.More
import HandS.Text
import HandS.ExcCtx
import HandS.DictComp
import KE.KStateDown
import HandS.Ends
import HandS.Words
import HandS.WordsExc
import HandS.Head0
import HandS.Head1
import HandS.Head2
import HandS.HeadEnd
import HandS.HeadHook1
import HandS.HeadHook2
import HandS.HeadHook3
import PySem.Challenge.RW_tellsnomore_k34_names_of_procedures
set_option Elab.async false
set_option linter.all false
set_option autoImplicit false
set_option maxRecDepth 100000
set_option maxHeartbeats 0
/-! TNa: data, cells, an own syntax without places, its evaluator. -/
namespace TN
abbrev Tx := List Nat
def lit (s : String) : Tx := s.toList.map Char.toNat
/-- a key of a dict -/
inductive Ky where
  | i (z : Int) | s (x : Tx)
  deriving DecidableEq
/-- data that never change -/
inductive D where
  | non | bl (b : Bool) | int (i : Int) | str (s : Tx) | tup (xs : List D) | lst (xs : List D) | dct (ks : List Ky) (vs : List D)
  /-- a list that is read alone (the script) -/
  | scr (xs : List D)
  deriving Inhabited
/-- a value: a datum, or the cell n -/
inductive W where
  | d (x : D) | r (n : Nat)
  deriving Inhabited
inductive Cell where
  | lst (ws : List W) | dct (ks : List Ky) (ws : List W) | ins (c : Nat) (fs : List (Tx × W)) | dead
  deriving Inhabited
abbrev Store := List Cell
abbrev Env := List (Option W)
/-- an exception: its class, what it bears -/
structure Exn where
  c : Nat
  as : List D
inductive R (α : Type) where
  | ok (a : α) | exn (x : Exn) (s : Env) (m : Store) | stuck
def R.bind {α β : Type} (r : R α) (k : α → R β) : R β := match r with
  | .ok a => k a
  | .exn x s m => .exn x s m
  | .stuck => .stuck
@[simp] theorem R.bind_ok {α β : Type} (a : α) (k : α → R β) : (R.ok a).bind k = k a := rfl
@[simp] theorem R.bind_stuck {α β : Type} (k : α → R β) : (R.stuck : R α).bind k = .stuck := rfl
@[simp] theorem R.bind_exn {α β : Type} (x : Exn) (s : Env) (m : Store) (k : α → R β) : (R.exn x s m : R α).bind k = .exn x s m := rfl
def R.of {α : Type} (o : Option α) : R α := match o with
  | some a => .ok a
  | none => .stuck
@[simp] theorem R.of_some {α : Type} (a : α) : R.of (some a) = .ok a := rfl
@[simp] theorem R.of_none {α : Type} : R.of (none : Option α) = .stuck := rfl

/-- the slots at a raise -/
def R.from {α : Type} (s : Env) : R α → R α
  | .exn x _ M => .exn x s M
  | r => r
@[simp] theorem R.from_ok {α : Type} (s : Env) (a : α) : (R.ok a).from s = .ok a := rfl
@[simp] theorem R.from_stuck {α : Type} (s : Env) : (R.stuck : R α).from s = .stuck := rfl

/-! ### Python's == of data -/
mutual
def D.eqv : D → D → Bool
  | .non, .non => true
  | .bl a, .bl b => a == b
  | .bl a, .int j => (if a then 1 else 0) == j
  | .int i, .bl b => i == (if b then 1 else 0)
  | .int i, .int j => i == j
  | .str x, .str y => decide (x = y)
  | .tup xs, .tup ys => D.eqvs xs ys
  | .lst xs, .lst ys => D.eqvs xs ys
  | _, _ => false
def D.eqvs : List D → List D → Bool
  | [], [] => true
  | x :: xs, y :: ys => D.eqv x y && D.eqvs xs ys
  | _, _ => false
end
mutual
/-- no dict within, the texts' signs are signs -/
def D.lay : D → Bool
  | .str x => x.all fun c => decide (c < 1114112)
  | .tup xs => D.lays xs
  | .lst xs => D.lays xs
  | .dct _ _ => false
  | .scr _ => false
  | _ => true
def D.lays : List D → Bool
  | [] => true
  | x :: xs => D.lay x && D.lays xs
end
mutual
def D.dep : D → Nat
  | .tup xs => D.deps xs + 1
  | .lst xs => D.deps xs + 1
  | .dct _ _ => 0
  | _ => 0
def D.deps : List D → Nat
  | [] => 0
  | x :: xs => max (D.dep x) (D.deps xs)
end

/-! ### the syntax -/
inductive Bop where
  | add | sub | mul | fdiv | mod | pow
  deriving DecidableEq
inductive Cop where
  | eq | ne | lt | le | gt | ge | isIn | notIn | is_ | isNot
  deriving DecidableEq
inductive Ty where
  | int | str | tuple | bool | list
  deriving DecidableEq
/-- built-ins whose answer is no new list -/
inductive Bi where
  | len | tuple | all | any | sum | int | abs | str | max2 | min2 | ord
  deriving DecidableEq
/-- built-ins that answer by a new list -/
inductive Lb where
  | list | sorted
  deriving DecidableEq
inductive Mt where
  | append | extend | insert | pop | get | join | startswith
  deriving DecidableEq
/-- a target: a slot, a tuple of slots -/
inductive Tg where
  | nm (i : Nat) | tu (is : List Nat)
  deriving DecidableEq
def Tg.slots : Tg → List Nat
  | .nm i => [i]
  | .tu is => is
mutual
inductive E where
  | loc (i : Nat) | con (g : Nat) | lit (d : D) | tup (es : Es) | frz (l : L) | cel (l : L) | dfrz (c : Dc) | dcel (c : Dc)
  | bin (o : Bop) (a b : E) | cmp (o : Cop) (a b : E) | cmp2 (o p : Cop) (a b c : E) | neg (a : E) | inv (a : E) | and (es : Es) | or (es : Es)
  | ifx (c a b : E) | idx (a i : E) | sl (a lo hi : E) | no | rev (a : E) | call (f : Nat) (es : Es) | bi (b : Bi) (es : Es) | isi (a : E) (t : Ty) | mth (m : Mt) (o : E) (es : Es)
  /-- a in d, d[a], d a dict of the module -/
  | cin (g : Nat) (a : E) | cidx (g : Nat) (a : E)
inductive Es where
  | nil | cons (e : E) (es : Es)
/-- what makes a new list -/
inductive L where
  | disp (es : Es) | cat (a b : E) | bi (b : Lb) (es : Es) | comp (elt : E) (tg : Tg) (it : I) (c : E) | sl (a lo hi : E)
/-- what a for walks -/
inductive I where
  | of (e : E) | zip (a b : E) | enum (a : E) | rng (es : Es) | items (a : E)
/-- what makes a new dict -/
inductive Dc where
  | disp (ks vs : Es) | comp (k v : E) (tg : Tg) (it : I)
end
mutual
inductive S where
  | asg (t : Tg) (e : E) | set (o i e : E) | fld (o : E) (f : Tx) (e : E) | aug (i : Nat) (o : Bop) (e : E) | expr (e : E) | ret (e : E) | retN
  | ifs (c : E) (a b : Ss) | for_ (tg : Tg) (it : I) (b : Ss) | whl (c : E) (b : Ss) | brk | cnt | pass
inductive Ss where
  | nil | cons (s : S) (ss : Ss)
end
def E.isNo : E → Bool
  | .no => true
  | _ => false
def Es.len : Es → Nat
  | .nil => 0
  | .cons _ es => es.len + 1

/-! ### operators on values -/
def line : Nat := 16777216
def W.getD : W → Option D
  | .d x => some x
  | .r _ => none
def toDs : List W → Option (List D)
  | [] => some []
  | .d x :: ws => (toDs ws).map (x :: ·)
  | .r _ :: _ => none
/-- a list or tuple by its items -/
def seqOf (M : Store) : W → Option (List W)
  | .d (.tup xs) => some (xs.map .d)
  | .d (.lst xs) => some (xs.map .d)
  | .d (.scr xs) => some (xs.map .d)
  | .r n => match M[n]? with
    | some (.lst ws) => some ws
    | _ => none
  | _ => none
def lenOf (M : Store) (w : W) : Option Nat := match w with
  | .d (.str s) => if s.length ≤ line then some s.length else none
  | .d (.dct ks _) => some ks.length
  | .r n => (match M[n]? with
    | some (.lst ws) => some ws.length
    | some (.dct ks _) => some ks.length
    | _ => none)
  | .d (.tup xs) => some xs.length
  | .d (.lst xs) => some xs.length
  | .d (.scr xs) => some xs.length
  | _ => none
def tru (M : Store) (w : W) : Option Bool := match w with
  | .d .non => some false
  | .d (.bl b) => some b
  | .d (.int i) => some (i != 0)
  | w => (lenOf M w).map fun n => n != 0
def sm64 (i : Int) : Bool := decide (-(2 ^ 64) < i) && decide (i < 2 ^ 64)
def binSem (o : Bop) (x y : W) : Option W := match o, x, y with
  | .add, .d (.int i), .d (.int j) => some (.d (.int (i + j)))
  | .add, .d (.str a), .d (.str b) => if a.length + b.length ≤ line then some (.d (.str (a ++ b))) else none
  | .add, .d (.tup a), .d (.tup b) => if a.length + b.length ≤ line then some (.d (.tup (a ++ b))) else none
  | .sub, .d (.int i), .d (.int j) => some (.d (.int (i - j)))
  | .mul, .d (.str a), .d (.int j) => if j = 0 then some (.d (.str [])) else if j = 1 then some (.d (.str a)) else none
  | .mul, .d (.int i), .d (.int j) => if sm64 j || sm64 i then some (.d (.int (i * j))) else none
  | .fdiv, .d (.int i), .d (.int j) => if 0 < j ∧ j < 1073741824 then some (.d (.int (i / j))) else none
  | .mod, .d (.int i), .d (.int j) => if 0 < j then some (.d (.int (i % j))) else none
  | .pow, .d (.int i), .d (.int j) => if 0 ≤ j ∧ j ≤ 1000000 ∧ i.natAbs < 2 ^ 64 then some (.d (.int (i ^ j.toNat))) else none
  | _, _, _ => none
/-- x op= y, of integers -/
def augSem (o : Bop) (x y : W) : Option W := match o, x, y with
  | .add, .d (.int i), .d (.int j) => some (.d (.int (i + j)))
  | .sub, .d (.int i), .d (.int j) => some (.d (.int (i - j)))
  | _, _, _ => none
def cmpI (o : Cop) (i j : Int) : Option Bool := match o with
  | .lt => some (decide (i < j))
  | .le => some (decide (i ≤ j))
  | .gt => some (decide (j < i))
  | .ge => some (decide (j ≤ i))
  | _ => none
def cmpS (o : Cop) (a b : Tx) : Option Bool := match o with
  | .lt => some (decide (a < b))
  | .le => some (!decide (b < a))
  | .gt => some (decide (b < a))
  | .ge => some (!decide (a < b))
  | _ => none
def D.flat : D → Bool
  | .non => true
  | .bl _ => true
  | .int _ => true
  | .str _ => true
  | _ => false
def eqD (x y : D) : Option Bool := if (x.flat && y.flat) || (x.lay && y.lay && decide (min x.dep y.dep ≤ 100)) then some (x.eqv y) else none
def inD (x : D) (ds : List D) : Option Bool := if (x.flat && ds.all D.flat) || (x.lay && D.lays ds && decide (x.dep ≤ 100)) then some (ds.any fun z => z.eqv x) else none
def kyOf : D → Option Ky
  | .int i => some (.i i)
  | .str s => some (.s s)
  | _ => none
/-- the text x stands within the text y -/
def occB (x y : Tx) : Bool := !(PySem.Builtin.Str.occurrences (⟨y.toArray⟩ : PySem.Str) (⟨x.toArray⟩ : PySem.Str) 0 (⟨y.toArray⟩ : PySem.Str).length 1).isEmpty
def inOf (M : Store) (x : W) (y : W) : Option Bool := match x, y with
  | .d (.str x), .d (.str y) => some (occB x y)
  | .d x, .d (.dct ks _) => (kyOf x).map fun k => decide (k ∈ ks)
  | .d x, .r n => (match M[n]? with
    | some (.dct ks _) => (kyOf x).map fun k => decide (k ∈ ks)
    | some (.lst ws) => (toDs ws).bind fun ds => inD x ds
    | _ => none)
  | .d x, .d (.tup ds) => inD x ds
  | .d x, .d (.lst ds) => inD x ds
  | _, _ => none
def cmpSem (M : Store) (o : Cop) (x y : W) : Option Bool := match o, x, y with
  | .eq, .d x, .d y => eqD x y
  | .ne, .d x, .d y => (eqD x y).map not
  | .isIn, x, y => inOf M x y
  | .notIn, x, y => (inOf M x y).map not
  | .is_, .d x, .d .non => some (match x with | .non => true | _ => false)
  | .isNot, .d x, .d .non => some (match x with | .non => false | _ => true)
  | .is_, .d (.bl a), .d (.bl b) => some (decide (a = b))
  | .isNot, .d (.bl a), .d (.bl b) => some (!decide (a = b))
  | o, .d (.int i), .d (.int j) => cmpI o i j
  | o, .d (.str a), .d (.str b) => cmpS o a b
  | _, _, _ => none
def ixN (n : Nat) (i : Int) : Option Nat := if 0 ≤ i then (if i < n then some i.toNat else none) else if -(n : Int) ≤ i then some (i + n).toNat else none
def atI {α : Type} (xs : List α) (i : Int) : Option α := (ixN xs.length i).bind fun j => xs[j]?
def dget {α : Type} (k : Ky) : List Ky → List α → Option α
  | a :: ks, w :: ws => if a = k then some w else dget k ks ws
  | _, _ => none
def idxSem (M : Store) (x i : W) : Option W := match x, i with
  | .d (.tup xs), .d (.int i) => (atI xs i).map .d
  | .d (.lst xs), .d (.int i) => (atI xs i).map .d
  | .d (.scr xs), .d (.int i) => (atI xs i).map .d
  | .d (.str s), .d (.int i) => if s.length ≤ line then (atI s i).map fun c => .d (.str [c]) else none
  | .d (.dct ks vs), .d k => (kyOf k).bind fun k => (dget k ks vs).map .d
  | .r n, .d k => (match M[n]? with
    | some (.lst ws) => (match k with
      | .int i => atI ws i
      | _ => none)
    | some (.dct ks ws) => (kyOf k).bind fun k => dget k ks ws
    | _ => none)
  | _, _ => none
def sIx (n d : Nat) : Option Int → Nat
  | none => d
  | some v => if v < 0 then (v + (n : Int)).toNat else min v.toNat n
def cut {α : Type} (xs : List α) (lo hi : Option Int) : List α := (xs.drop (sIx xs.length 0 lo)).take (sIx xs.length xs.length hi - sIx xs.length 0 lo)
def partOf (no : Bool) (r : R (W × Store)) (M : Store) : R (Option Int × Store) := if no then .ok (none, M) else r.bind fun (l, M) => match l with
  | .d (.int i) => .ok (some i, M)
  | _ => .stuck
def slSem (x : W) (lo hi : Option Int) : Option W := match x with
  | .d (.tup xs) => some (.d (.tup (cut xs lo hi)))
  | .d (.str s) => if s.length ≤ line then some (.d (.str (cut s lo hi))) else none
  | _ => none
def boolsOf : List W → Option (List Bool)
  | [] => some []
  | .d (.bl b) :: ws => (boolsOf ws).map (b :: ·)
  | _ :: _ => none
def intsOf : List W → Option (List Int)
  | [] => some []
  | .d (.int i) :: ws => (intsOf ws).map (i :: ·)
  | _ :: _ => none
def strsOf : List W → Option (List Tx)
  | [] => some []
  | .d (.str s) :: ws => (strsOf ws).map (s :: ·)
  | _ :: _ => none
/-- lists alone -/
def listOf (M : Store) : W → Option (List W)
  | .d (.lst xs) => some (xs.map .d)
  | .r n => match M[n]? with
    | some (.lst ws) => some ws
    | _ => none
  | _ => none
def biSem (M : Store) (b : Bi) (ws : List W) : Option W := match b, ws with
  | .len, [w] => (lenOf M w).map fun n => .d (.int n)
  | .tuple, [w] => (seqOf M w).bind fun ws => (toDs ws).map fun ds => .d (.tup ds)
  | .all, [w] => (listOf M w).bind fun ws => (boolsOf ws).map fun bs => .d (.bl (bs.all id))
  | .any, [w] => (listOf M w).bind fun ws => (boolsOf ws).map fun bs => .d (.bl (bs.any id))
  | .sum, [w] => (listOf M w).bind fun ws => (intsOf ws).map fun is => .d (.int is.sum)
  | .int, [.d (.int i)] => some (.d (.int i))
  | .int, [.d (.bl b)] => some (.d (.int (if b then 1 else 0)))
  | .abs, [.d (.int i)] => some (.d (.int (if i < 0 then -i else i)))
  | .max2, [.d (.int i), .d (.int j)] => some (.d (.int (if j > i then j else i)))
  | .min2, [.d (.int i), .d (.int j)] => some (.d (.int (if j < i then j else i)))
  | _, _ => none
def leTx (a b : Tx) : Bool := !decide (b < a)
def insTx (a : Tx) : List Tx → List Tx
  | [] => [a]
  | b :: xs => if leTx a b then a :: b :: xs else b :: insTx a xs
def sortTx : List Tx → List Tx
  | [] => []
  | a :: xs => insTx a (sortTx xs)
/-- a dict's keys -/
def dctKs (M : Store) : W → Option (List Ky)
  | .d (.dct ks _) => some ks
  | .r n => (match M[n]? with
    | some (.dct ks _) => some ks
    | _ => none)
  | _ => none
def keysTx : List Ky → Option (List Tx)
  | [] => some []
  | .s x :: ks => (keysTx ks).map (x :: ·)
  | .i _ :: _ => none
/-- the texts of a list, of a tuple, of a dict's keys -/
def strsIn (M : Store) (w : W) : Option (List Tx) := match dctKs M w with
  | some ks => keysTx ks
  | none => (seqOf M w).bind strsOf
def lbSem (M : Store) (b : Lb) (ws : List W) : Option (List W) := match b, ws with
  | .list, [w] => seqOf M w
  | .sorted, [w] => (strsIn M w).bind fun ss => if ss.length < 64 then some ((sortTx ss).map fun s => .d (.str s)) else none
  | _, _ => none
def catSem (M : Store) (x y : W) : Option (List W) := (listOf M x).bind fun a => (listOf M y).bind fun b => if a.length + b.length ≤ line then some (a ++ b) else none
def tyOf (t : Ty) (w : W) : Option Bool := match w, t with
  | .d .non, _ => some false
  | .d (.bl _), t => some (t == .bool || t == .int)
  | .d (.int _), t => some (t == .int)
  | .d (.str _), t => some (t == .str)
  | .d (.tup _), t => some (t == .tuple)
  | .d (.lst _), t => some (t == .list)
  | _, _ => none
/-- a method: the answer, the store behind -/
def mtRcv (M : Store) (m : Mt) (o : W) : Bool := match m, o with
  | .join, .d (.str _) => true
  | .startswith, .d (.str _) => true
  | .get, .d (.dct _ _) => true
  | .get, .r n => (match M[n]? with
    | some (.dct _ _) => true
    | _ => false)
  | .append, .r n => (match M[n]? with
    | some (.lst _) => true
    | _ => false)
  | .extend, .r n => (match M[n]? with
    | some (.lst _) => true
    | _ => false)
  | .insert, .r n => (match M[n]? with
    | some (.lst _) => true
    | _ => false)
  | .pop, .r n => (match M[n]? with
    | some (.lst _) => true
    | _ => false)
  | _, _ => false
def mtSem (M : Store) (m : Mt) (o : W) (ws : List W) : Option (W × Store) := match m, o, ws with
  | .append, .r n, [w] => (match M[n]? with
    | some (.lst xs) => if xs.length < line then some (.d .non, M.set n (.lst (xs ++ [w]))) else none
    | _ => none)
  | .extend, .r n, [w] => (match M[n]?, seqOf M w with
    | some (.lst xs), some ys => if xs.length + ys.length ≤ line then some (.d .non, M.set n (.lst (xs ++ ys))) else none
    | _, _ => none)
  | .insert, .r n, [.d (.int i), w] => (match M[n]? with
    | some (.lst xs) => if xs.length < line ∧ 0 ≤ i ∧ i ≤ xs.length then some (.d .non, M.set n (.lst (xs.take i.toNat ++ w :: xs.drop i.toNat))) else none
    | _ => none)
  | .pop, .r n, [] => (match M[n]? with
    | some (.lst xs) => (xs.getLast?).map fun w => (w, M.set n (.lst xs.dropLast))
    | _ => none)
  | .startswith, .d (.str a), [.d (.str b)] => some (.d (.bl (PySem.Txt.startswith (⟨a.toArray⟩ : PySem.Str) (⟨b.toArray⟩ : PySem.Str))), M)
  | .get, .d (.dct ks vs), [.d k, w] => (kyOf k).map fun k => (((dget k ks vs).map W.d).getD w, M)
  | .get, .r n, [.d k, w] => (match M[n]? with
    | some (.dct ks vs) => (kyOf k).map fun k => ((dget k ks vs).getD w, M)
    | _ => none)
  | _, _, _ => none
/-- the keys and values behind d[k] = w -/
def dputK {α : Type} (k : Ky) (w : α) (ks : List Ky) (vs : List α) : List Ky × List α := if k ∈ ks then (ks, List.zipWith (fun a v => if a = k then w else v) ks vs) else (ks ++ [k], vs ++ [w])
def setSem (M : Store) (o i w : W) : Option Store := match o, i with
  | .r n, .d k => (match M[n]? with
    | some (.lst ws) => (match k with
      | .int i => (ixN ws.length i).map fun j => M.set n (.lst (ws.set j w))
      | _ => none)
    | some (.dct ks vs) => (kyOf k).bind fun k => if ks.length < line then some (M.set n (.dct (dputK k w ks vs).1 (dputK k w ks vs).2)) else none
    | _ => none)
  | _, _ => none

/-! ### walks -/
/-- what one turn of a walk hands over -/
inductive Itm where
  | one (w : W) | many (ws : List W)
def putAll : List Nat → List W → Env → Option Env
  | [], [], s => some s
  | i :: is, w :: ws, s => putAll is ws (s.set i (some w))
  | _, _, _ => none
def Tg.put (t : Tg) (x : Itm) (s : Env) : Option Env := match t, x with
  | .nm i, .one w => some (s.set i (some w))
  | .tu is, .many ws => putAll is ws s
  | .tu is, .one (.d (.tup xs)) => putAll is (xs.map W.d) s
  | _, _ => none
def wipe (s : Env) : List Nat → Env
  | [] => s
  | i :: is => (wipe s is).set i none
/-- slots that were empty ahead of a turn are empty behind it -/
def mask : Env → Env → Env
  | none :: a, _ :: b => none :: mask a b
  | some _ :: a, y :: b => y :: mask a b
  | _, _ => []
/-- the cells that are walked -/
def guardOf (w : W) : List Nat := match w with
  | .r n => [n]
  | _ => []
inductive Flow where
  | nx | brk | cnt | ret (w : W)

structure Ctx where
  fn : Nat → List W → Store → R (W × Store)
  con : Nat → Option D
  wf : Nat
mutual
/-- the same datum -/
def D.beq : D → D → Bool
  | .non, .non => true
  | .bl a, .bl b => a == b
  | .int i, .int j => decide (i = j)
  | .str x, .str y => decide (x = y)
  | .tup xs, .tup ys => D.beqs xs ys
  | .lst xs, .lst ys => D.beqs xs ys
  | .scr xs, .scr ys => D.beqs xs ys
  | .dct ks xs, .dct ls ys => decide (ks = ls) && D.beqs xs ys
  | _, _ => false
def D.beqs : List D → List D → Bool
  | [], [] => true
  | x :: xs, y :: ys => D.beq x y && D.beqs xs ys
  | _, _ => false
end
def W.beq : W → W → Bool
  | .d x, .d y => D.beq x y
  | .r n, .r m => decide (n = m)
  | _, _ => false
def W.beqs : List W → List W → Bool
  | [], [] => true
  | x :: xs, y :: ys => W.beq x y && W.beqs xs ys
  | _, _ => false
def Cell.beq : Cell → Cell → Bool
  | .lst a, .lst b => W.beqs a b
  | .dct ks a, .dct ls b => decide (ks = ls) && W.beqs a b
  | .dead, .dead => true
  | _, _ => false
def obeq : Option Cell → Option Cell → Bool
  | none, none => true
  | some a, some b => Cell.beq a b
  | _, _ => false
mutual
theorem D.beq_eq : ∀ a b : D, D.beq a b = true → a = b
  | .non, b, h => by cases b <;> first | rfl | cases h
  | .bl x, b, h => by cases b <;> first | (simp only [D.beq, beq_iff_eq] at h; rw [h]) | cases h
  | .int x, b, h => by cases b <;> first | (simp only [D.beq, decide_eq_true_eq] at h; rw [h]) | cases h
  | .str x, b, h => by cases b <;> first | (simp only [D.beq, decide_eq_true_eq] at h; rw [h]) | cases h
  | .tup xs, b, h => by cases b <;> first | (simp only [D.beq] at h; rw [D.beqs_eq _ _ h]) | cases h
  | .lst xs, b, h => by cases b <;> first | (simp only [D.beq] at h; rw [D.beqs_eq _ _ h]) | cases h
  | .scr xs, b, h => by cases b <;> first | (simp only [D.beq] at h; rw [D.beqs_eq _ _ h]) | cases h
  | .dct ks xs, b, h => by
    cases b <;> first | (simp only [D.beq, Bool.and_eq_true, decide_eq_true_eq] at h; rw [h.1, D.beqs_eq _ _ h.2]) | cases h
theorem D.beqs_eq : ∀ a b : List D, D.beqs a b = true → a = b
  | [], [], _ => rfl
  | [], _ :: _, h => by cases h
  | _ :: _, [], h => by cases h
  | x :: xs, y :: ys, h => by
    simp only [D.beqs, Bool.and_eq_true] at h
    rw [D.beq_eq _ _ h.1, D.beqs_eq _ _ h.2]
end
mutual
theorem D.beq_refl : ∀ a : D, D.beq a a = true
  | .non => rfl
  | .bl x => by simp [D.beq]
  | .int x => by simp [D.beq]
  | .str x => by simp [D.beq]
  | .tup xs => by simp [D.beq, D.beqs_refl xs]
  | .lst xs => by simp [D.beq, D.beqs_refl xs]
  | .scr xs => by simp [D.beq, D.beqs_refl xs]
  | .dct ks xs => by simp [D.beq, D.beqs_refl xs]
theorem D.beqs_refl : ∀ a : List D, D.beqs a a = true
  | [] => rfl
  | x :: xs => by simp [D.beqs, D.beq_refl x, D.beqs_refl xs]
end
theorem W.beq_eq : ∀ a b : W, W.beq a b = true → a = b
  | .d x, .d y, h => by simp only [W.beq] at h; rw [D.beq_eq _ _ h]
  | .r n, .r m, h => by simp only [W.beq, decide_eq_true_eq] at h; rw [h]
  | .d _, .r _, h => by cases h
  | .r _, .d _, h => by cases h
theorem W.beqs_eq : ∀ a b : List W, W.beqs a b = true → a = b
  | [], [], _ => rfl
  | [], _ :: _, h => by cases h
  | _ :: _, [], h => by cases h
  | x :: xs, y :: ys, h => by
    simp only [W.beqs, Bool.and_eq_true] at h
    rw [W.beq_eq _ _ h.1, W.beqs_eq _ _ h.2]
theorem W.beq_refl : ∀ a : W, W.beq a a = true
  | .d x => D.beq_refl x
  | .r n => by simp [W.beq]
theorem W.beqs_refl : ∀ a : List W, W.beqs a a = true
  | [] => rfl
  | x :: xs => by simp [W.beqs, W.beq_refl x, W.beqs_refl xs]
theorem Cell.beq_eq : ∀ a b : Cell, Cell.beq a b = true → a = b
  | .lst a, b, h => by cases b <;> first | (simp only [Cell.beq] at h; rw [W.beqs_eq _ _ h]) | cases h
  | .dct ks a, b, h => by cases b <;> first | (simp only [Cell.beq, Bool.and_eq_true, decide_eq_true_eq] at h; rw [h.1, W.beqs_eq _ _ h.2]) | cases h
  | .ins _ _, b, h => by cases b <;> cases h
  | .dead, b, h => by cases b <;> first | rfl | cases h
theorem obeq_eq : ∀ a b : Option Cell, obeq a b = true → a = b
  | none, none, _ => rfl
  | some a, some b, h => by rw [Cell.beq_eq _ _ h]
  | none, some _, h => by cases h
  | some _, none, h => by cases h
/-- the same cells at the places gs -/
def stays (gs : List Nat) (M M' : Store) : Prop := ∀ n ∈ gs, M'[n]? = M[n]?
def guard (gs : List Nat) (M M' : Store) : Bool := gs.all fun n => obeq (M'[n]?) (M[n]?)
theorem guard_ok {gs : List Nat} {M M' : Store} (h : guard gs M M' = true) : stays gs M M' := fun n hn => obeq_eq _ _ (List.all_eq_true.mp h n hn)
@[simp] theorem guard_nil (M M' : Store) : guard [] M M' = true := rfl
/-- the turns of a list comprehension -/
def compLoop (bindT : Itm → Option Env) (c : Env → Store → R (Bool × Store)) (e : Env → Store → R (W × Store)) (gs : List Nat) : List Itm → Store → List W → R (List W × Store)
  | [], M, acc => .ok (acc, M)
  | x :: xs, M, acc => (R.of (bindT x)).bind fun s => (c s M).bind fun (b, M1) =>
    if b then (e s M1).bind fun (w, M2) => if guard gs M M2 && decide (acc.length < line) then compLoop bindT c e gs xs M2 (acc ++ [w]) else .stuck
    else if guard gs M M1 then compLoop bindT c e gs xs M1 acc else .stuck
/-- nothing that is raised leaves -/
def R.nox {α : Type} : R α → R α
  | .exn _ _ _ => .stuck
  | r => r
def forLoop (bindT : Itm → Env → Option Env) (b : Env → Store → R (Flow × Env × Store)) (gs : List Nat) (s0 : Env) : List Itm → Env → Store → R (Flow × Env × Store)
  | [], s, M => .ok (.nx, mask s0 s, M)
  | x :: xs, s, M => (R.of (bindT x s)).bind fun s1 => (b s1 M).bind fun (fl, s2, M2) => match fl with
    | .nx => if guard gs M M2 then forLoop bindT b gs s0 xs (mask s0 s2) M2 else .stuck
    | .cnt => if guard gs M M2 then forLoop bindT b gs s0 xs (mask s0 s2) M2 else .stuck
    | .brk => .ok (.nx, mask s0 s2, M2)
    | .ret w => .ok (.ret w, s2, M2)
def whlLoop (c : Env → Store → R (Bool × Store)) (b : Env → Store → R (Flow × Env × Store)) (s0 : Env) : Nat → Env → Store → R (Flow × Env × Store)
  | 0, _, _ => .stuck
  | k + 1, s, M => (c s M).bind fun (t, M1) => if t then (b s M1).bind fun (fl, s2, M2) => (match fl with
      | .nx => whlLoop c b s0 k (mask s0 s2) M2
      | .cnt => whlLoop c b s0 k (mask s0 s2) M2
      | .brk => .ok (.nx, mask s0 s2, M2)
      | .ret w => .ok (.ret w, s2, M2))
    else .ok (.nx, s, M1)
def rngItems (lo : Int) (n : Nat) : List Itm := (List.range n).map fun (i : Nat) => .one (.d (.int (lo + (i : Int))))
def rngSem (ws : List W) : Option (List Itm) := match ws with
  | [.d (.int j)] => if -(2 ^ 62) ≤ j ∧ j < 2 ^ 62 then some (rngItems 0 j.toNat) else none
  | [.d (.int i), .d (.int j)] => if -(2 ^ 62) ≤ i ∧ i < 2 ^ 62 ∧ -(2 ^ 62) ≤ j ∧ j < 2 ^ 62 then some (rngItems i (j - i).toNat) else none
  | _ => none
def zipItems : List W → List W → List Itm
  | a :: as, b :: bs => .many [a, b] :: zipItems as bs
  | _, _ => []
def enumItems (i : Nat) : List W → List Itm
  | [] => []
  | a :: as => .many [.d (.int i), a] :: enumItems (i + 1) as
def kyD : Ky → D
  | .i z => .int z
  | .s x => .str x
/-- both are tuples, or both are lists -/
def zipSem (M : Store) (x y : W) : Option (List Itm) := match x, y with
  | .d (.tup a), .d (.tup b) => some (zipItems (a.map .d) (b.map .d))
  | x, y => (listOf M x).bind fun a => (listOf M y).map fun b => zipItems a b
def iterSem (M : Store) (w : W) : Option (List Itm) := match w with
  | .d (.str s) => some (s.map fun c => .one (.d (.str [c])))
  | w => (seqOf M w).map fun ws => ws.map .one
def dputs {α : Type} : List Ky → List α → List Ky → List α → List Ky × List α
  | k :: ks, w :: ws, ks', vs' => let p := dputK k w ks' vs'; dputs ks ws p.1 p.2
  | _, _, ks', vs' => (ks', vs')
def kysOf : List W → Option (List Ky)
  | [] => some []
  | .d x :: ws => (kyOf x).bind fun k => (kysOf ws).map (k :: ·)
  | .r _ :: _ => none

/-- the turns of a dict comprehension -/
def dcLoop (bindT : Itm → Option Env) (ek ev : Env → Store → R (W × Store)) (gs : List Nat) : List Itm → Store → List Ky → List W → R ((List Ky × List W) × Store)
  | [], M, ks, vs => .ok ((ks, vs), M)
  | x :: xs, M, ks, vs => (R.of (bindT x)).bind fun s => (ek s M).bind fun (y, M1) => (ev s M1).bind fun (w, M2) => match y with
    | .d d => (R.of (kyOf d)).bind fun k => if guard gs M M2 && decide (ks.length < line) then dcLoop bindT ek ev gs xs M2 (dputK k w ks vs).1 (dputK k w ks vs).2 else .stuck
    | .r _ => .stuck

/-- a constant's datum; a dict of the module is asked by cin and cidx alone -/
def conSem : Option D → Option D
  | some (.dct _ _) => none
  | o => o
def isDct : Option D → Bool
  | some (.dct _ _) => true
  | _ => false
def cinSem (o : Option D) (x : W) : Option Bool := match o, x with
  | some (.dct ks _), .d (.str t) => some (decide (Ky.s t ∈ ks))
  | _, _ => none
def cixSem (o : Option D) (x : W) : Option W := match o, x with
  | some (.dct ks vs), .d (.str t) => (dget (.s t) ks vs).bind fun d => match d with
    | .int i => some (.d (.int i))
    | _ => none
  | _, _ => none
/-! ### the evaluator -/
mutual
def evE (Γ : Ctx) : E → Env → Store → R (W × Store)
  | .loc i, s, M => match s[i]? with
    | some (some w) => .ok (w, M)
    | _ => .stuck
  | .con g, _, M => (R.of (conSem (Γ.con g))).bind fun d => .ok (.d d, M)
  | .cin g a, s, M => (evE Γ a s M).bind fun (x, M) => (R.of (cinSem (Γ.con g) x)).bind fun b => .ok (.d (.bl b), M)
  | .cidx g a, s, M => if isDct (Γ.con g) then (evE Γ a s M).bind fun (x, M) => (R.of (cixSem (Γ.con g) x)).bind fun w => .ok (w, M) else .stuck
  | .lit d, _, M => .ok (.d d, M)
  | .no, _, M => .ok (.d .non, M)
  | .tup es, s, M => (evEs Γ es s M).bind fun (ws, M) => (R.of (toDs ws)).bind fun ds => .ok (.d (.tup ds), M)
  | .frz l, s, M => (evL Γ l s M).bind fun (ws, M) => (R.of (toDs ws)).bind fun ds => .ok (.d (.lst ds), M)
  | .cel l, s, M => (evL Γ l s M).bind fun (ws, M) => .ok (.r M.length, M ++ [.lst ws])
  | .dfrz c, s, M => (evDc Γ c s M).bind fun (p, M) => (R.of (toDs p.2)).bind fun ds => .ok (.d (.dct p.1 ds), M)
  | .dcel c, s, M => (evDc Γ c s M).bind fun (p, M) => .ok (.r M.length, M ++ [.dct p.1 p.2])
  | .bin o a b, s, M => (evE Γ a s M).bind fun (x, M) => (evE Γ b s M).bind fun (y, M) => (R.of (binSem o x y)).bind fun w => .ok (w, M)
  | .cmp o a b, s, M => (evE Γ a s M).bind fun (x, M) => (evE Γ b s M).bind fun (y, M) => (R.of (cmpSem M o x y)).bind fun k => .ok (.d (.bl k), M)
  | .cmp2 o p a b c, s, M => (evE Γ a s M).bind fun (x, M) => (evE Γ b s M).bind fun (y, M) => (R.of (cmpSem M o x y)).bind fun k =>
    if k then (evE Γ c s M).bind fun (z, M) => (R.of (cmpSem M p y z)).bind fun k => .ok (.d (.bl k), M) else .ok (.d (.bl false), M)
  | .neg a, s, M => (evE Γ a s M).bind fun (x, M) => match x with
    | .d (.int i) => .ok (.d (.int (-i)), M)
    | _ => .stuck
  | .inv a, s, M => (evE Γ a s M).bind fun (x, M) => (R.of (tru M x)).bind fun b => .ok (.d (.bl (!b)), M)
  | .and es, s, M => evAnd Γ es s M
  | .or es, s, M => evOr Γ es s M
  | .ifx c a b, s, M => (evE Γ c s M).bind fun (x, M) => (R.of (tru M x)).bind fun t => if t then evE Γ a s M else evE Γ b s M
  | .idx a i, s, M => (evE Γ a s M).bind fun (x, M) => (evE Γ i s M).bind fun (y, M) => (R.of (idxSem M x y)).bind fun w => .ok (w, M)
  | .sl a lo hi, s, M => (evE Γ a s M).bind fun (x, M) => (partOf lo.isNo (evE Γ lo s M) M).bind fun (l, M) => (partOf hi.isNo (evE Γ hi s M) M).bind fun (h, M) =>
    (R.of (slSem x l h)).bind fun w => .ok (w, M)
  | .rev a, s, M => (evE Γ a s M).bind fun (x, M) => match x with
    | .d (.tup xs) => .ok (.d (.tup xs.reverse), M)
    | _ => .stuck
  | .call f es, s, M => (evEs Γ es s M).bind fun (ws, M) => (Γ.fn f ws M).from s
  | .bi b es, s, M => (evEs Γ es s M).bind fun (ws, M) => (R.of (biSem M b ws)).bind fun w => .ok (w, M)
  | .isi a t, s, M => (evE Γ a s M).bind fun (x, M) => (R.of (tyOf t x)).bind fun b => .ok (.d (.bl b), M)
  | .mth m o es, s, M => (evE Γ o s M).bind fun (x, M) => if mtRcv M m x then (evEs Γ es s M).bind fun (ws, M) => R.of (mtSem M m x ws) else .stuck
def evAnd (Γ : Ctx) : Es → Env → Store → R (W × Store)
  | .nil, _, _ => .stuck
  | .cons e es, s, M => match es with
    | .nil => evE Γ e s M
    | .cons .. => (evE Γ e s M).bind fun (x, M) => (R.of (tru M x)).bind fun b => if b then evAnd Γ es s M else .ok (x, M)
def evOr (Γ : Ctx) : Es → Env → Store → R (W × Store)
  | .nil, _, _ => .stuck
  | .cons e es, s, M => match es with
    | .nil => evE Γ e s M
    | .cons .. => (evE Γ e s M).bind fun (x, M) => (R.of (tru M x)).bind fun b => if b then .ok (x, M) else evOr Γ es s M
def evEs (Γ : Ctx) : Es → Env → Store → R (List W × Store)
  | .nil, _, M => .ok ([], M)
  | .cons e es, s, M => (evE Γ e s M).bind fun (w, M) => (evEs Γ es s M).bind fun (ws, M) => .ok (w :: ws, M)
def evL (Γ : Ctx) : L → Env → Store → R (List W × Store)
  | .disp es, s, M => evEs Γ es s M
  | .cat a b, s, M => (evE Γ a s M).bind fun (x, M) => (evE Γ b s M).bind fun (y, M) => (R.of (catSem M x y)).bind fun ws => .ok (ws, M)
  | .bi b es, s, M => (evEs Γ es s M).bind fun (ws, M) => (R.of (lbSem M b ws)).bind fun r => .ok (r, M)
  | .comp elt tg it c, s, M => (evI Γ it s M).bind fun (items, gs, M) =>
    (compLoop (fun x => tg.put x (wipe s tg.slots)) (fun s M => if c.isNo then .ok (true, M) else (evE Γ c s M).bind fun (x, M) => (R.of (tru M x)).bind fun b => .ok (b, M)) (fun s M => evE Γ elt s M) gs items M []).nox
  | .sl a lo hi, s, M => (evE Γ a s M).bind fun (x, M) => (partOf lo.isNo (evE Γ lo s M) M).bind fun (l, M) => (partOf hi.isNo (evE Γ hi s M) M).bind fun (h, M) =>
    (R.of (listOf M x)).bind fun ws => .ok (cut ws l h, M)
def evI (Γ : Ctx) : I → Env → Store → R (List Itm × List Nat × Store)
  | .of e, s, M => (evE Γ e s M).bind fun (x, M) => (R.of (iterSem M x)).bind fun is => .ok (is, guardOf x, M)
  | .zip a b, s, M => (evE Γ a s M).bind fun (x, M) => (evE Γ b s M).bind fun (y, M) => (R.of (zipSem M x y)).bind fun is => .ok (is, guardOf x ++ guardOf y, M)
  | .enum a, s, M => (evE Γ a s M).bind fun (x, M) => (R.of (seqOf M x)).bind fun ws => .ok (enumItems 0 ws, guardOf x, M)
  | .rng es, s, M => (evEs Γ es s M).bind fun (ws, M) => (R.of (rngSem ws)).bind fun is => .ok (is, [], M)
  | .items _, _, _ => .stuck
def evDc (Γ : Ctx) : Dc → Env → Store → R ((List Ky × List W) × Store)
  | .disp ks vs, s, M => ((evEs Γ ks s M).bind fun (a, M) => (evEs Γ vs s M).bind fun (b, M) => (R.of (kysOf a)).bind fun a => .ok (dputs a b [] [], M)).nox
  | .comp k v tg it, s, M => (evI Γ it s M).bind fun (items, gs, M) =>
    (dcLoop (fun x => tg.put x (wipe s tg.slots)) (fun s M => evE Γ k s M) (fun s M => evE Γ v s M) gs items M [] []).nox
end
def evTest (Γ : Ctx) (c : E) (s : Env) (M : Store) : R (Bool × Store) := (evE Γ c s M).bind fun (x, M) => (R.of (tru M x)).bind fun b => .ok (b, M)
mutual
def evS (Γ : Ctx) : S → Env → Store → R (Flow × Env × Store)
  | .asg t e, s, M => ((evE Γ e s M).from s).bind fun (w, M) => (R.of (t.put (.one w) s)).bind fun s => .ok (.nx, s, M)
  | .set o i e, s, M => ((evE Γ e s M).from s).bind fun (w, M) => ((evE Γ o s M).from s).bind fun (x, M) => ((evE Γ i s M).from s).bind fun (y, M) => (R.of (setSem M x y w)).bind fun M => .ok (.nx, s, M)
  | .fld _ _ _, _, _ => .stuck
  | .aug i o e, s, M => match s[i]? with
    | some (some x) => ((evE Γ e s M).from s).bind fun (y, M) => (R.of (augSem o x y)).bind fun w => .ok (.nx, s.set i (some w), M)
    | _ => .stuck
  | .expr e, s, M => ((evE Γ e s M).from s).bind fun (_, M) => .ok (.nx, s, M)
  | .ret e, s, M => ((evE Γ e s M).from s).bind fun (w, M) => .ok (.ret w, s, M)
  | .retN, s, M => .ok (.ret (.d .non), s, M)
  | .ifs c a b, s, M => ((evTest Γ c s M).from s).bind fun (t, M) => if t then evSs Γ a s M else evSs Γ b s M
  | .for_ tg it b, s, M => ((evI Γ it s M).from s).bind fun (items, gs, M) => forLoop tg.put (fun s M => evSs Γ b s M) gs s items s M
  | .whl c b, s, M => whlLoop (fun s M => (evTest Γ c s M).from s) (fun s M => evSs Γ b s M) s Γ.wf s M
  | .brk, s, M => .ok (.brk, s, M)
  | .cnt, s, M => .ok (.cnt, s, M)
  | .pass, s, M => .ok (.nx, s, M)
def evSs (Γ : Ctx) : Ss → Env → Store → R (Flow × Env × Store)
  | .nil, s, M => .ok (.nx, s, M)
  | .cons a ss, s, M => (evS Γ a s M).bind fun (fl, s, M) => match fl with
    | .nx => evSs Γ ss s M
    | fl => .ok (fl, s, M)
end

/-! ### functions -/
structure FD where
  name : Tx
  pars : Nat
  N : List Tx
  body : Ss
  keep : Bool := false
def frzL (g : W → Option D) : List W → Option (List D)
  | [] => some []
  | w :: ws => (g w).bind fun d => (frzL g ws).map (d :: ·)
/-- the cells of a value (from lo on) become data -/
def frzW (M : Store) (lo : Nat) : Nat → W → Option D
  | 0, w => (match w with
    | .d x => some x
    | .r _ => none)
  | k + 1, w => (match w with
    | .d x => some x
    | .r n => if n < lo then none else match M[n]? with
      | some (.lst ws) => (frzL (frzW M lo k) ws).map .lst
      | some (.dct ks ws) => (frzL (frzW M lo k) ws).map (.dct ks)
      | _ => none)
def W.pure : W → Bool
  | .d _ => true
  | .r _ => false
def W.below (n : Nat) : W → Bool
  | .d _ => true
  | .r k => decide (k < n)
def Cell.below (n : Nat) : Cell → Bool
  | .lst ws => ws.all (W.below n)
  | .dct _ ws => ws.all (W.below n)
  | .ins _ fs => fs.all fun p => p.2.below n
  | .dead => true
def W.up (k : Nat) : W → W
  | .d x => .d x
  | .r n => .r (n + k)
def Cell.up (k : Nat) : Cell → Cell
  | .lst ws => .lst (ws.map (W.up k))
  | .dct ks ws => .dct ks (ws.map (W.up k))
  | .ins c fs => .ins c (fs.map fun p => (p.1, p.2.up k))
  | .dead => .dead
/-- behind a call: M ahead of it, pu: it had no cells; M' its own store -/
def fin (keep pu : Bool) (M : Store) (w : W) (M' : Store) : R (W × Store) :=
  match keep, pu with
  | true, true => .ok (w.up M.length, M ++ M'.map (Cell.up M.length))
  | true, false => .ok (w, M')
  | false, true => (R.of (frzW M' 0 (M'.length + 1) w)).bind fun d => .ok (.d d, M)
  | false, false => (R.of (frzW M' M.length (M'.length + 1) w)).bind fun d => if (M'.take M.length).all (Cell.below M.length) then .ok (.d d, M'.take M.length) else .stuck
def startEnv (n : Nat) (ws : List W) : Env := ws.map some ++ List.replicate (n - ws.length) none
structure Pr where
  fd : Nat → Option FD
  con : Nat → Option D
  wf : Nat
def run (P : Pr) : Nat → Nat → List W → Store → R (W × Store)
  | 0, _, _, _ => .stuck
  | n + 1, f, ws, M => match P.fd f with
    | none => .stuck
    | some fd => if ws.length = fd.pars then
        (match evSs ⟨run P n, P.con, P.wf⟩ fd.body (startEnv fd.N.length ws) (if ws.all W.pure then [] else M) with
        | .ok (.ret w, _, M') => fin fd.keep (ws.all W.pure) M w M'
        | .ok (.nx, _, M') => fin fd.keep (ws.all W.pure) M (.d .non) M'
        | _ => .stuck) else .stuck
end TN


/-! TNb: what a datum is in the heap; steps; what is wanted behind an evaluation. -/
namespace TN
open PySem PySem.Spec PyProof.Rows L2
abbrev toS (t : Tx) : PySem.Str := ⟨t.toArray⟩
def kyK : Ky → Key
  | .i z => .inl z
  | .s x => .inr (toS x)
theorem toS_inj {a b : Tx} (h : toS a = toS b) : a = b := by
  have := congrArg (fun s : PySem.Str => s.cps.toList) h
  simpa using this
theorem kyK_inj {a b : Ky} (h : kyK a = kyK b) : a = b := by
  cases a <;> cases b <;> simp [kyK] at h <;> first | exact congrArg _ h | skip
  all_goals simp_all
mutual
/-- the datum as it lies -/
inductive RepD (K : PySem.W.Frag) (Z : Hp) : V → D → Prop where
  | non : RepD K Z .non .non
  | bl (b : Bool) : RepD K Z (.bl b) (.bl b)
  | int (i : Int) : RepD K Z (.int i) (.int i)
  | str (t : Tx) : RepD K Z (.str (toS t)) (.str t)
  | tup {a : Addr} {vs : List V} {ds : List D} : SqT K Z a vs → RepDs K Z vs ds → RepD K Z (.ref a) (.tup ds)
  | lst {a : Addr} {vs : List V} {ds : List D} : Z a = some (.lst vs) → RepDs K Z vs ds → RepD K Z (.ref a) (.lst ds)
  | scr {a : Addr} {vs : List V} {ds : List D} : SqL K Z a vs → RepDs K Z vs ds → RepD K Z (.ref a) (.scr ds)
  | dct {a : Addr} {kvs : List (Key × V)} {ks : List Ky} {ds : List D} : Z a = some (.dK kvs) → kvs.map (·.1) = ks.map kyK → RepDs K Z (kvs.map (·.2)) ds → RepD K Z (.ref a) (.dct ks ds)
inductive RepDs (K : PySem.W.Frag) (Z : Hp) : List V → List D → Prop where
  | nil : RepDs K Z [] []
  | cons {v : V} {vs : List V} {d : D} {ds : List D} : RepD K Z v d → RepDs K Z vs ds → RepDs K Z (v :: vs) (d :: ds)
end
section
variable {K : PySem.W.Frag} {Z Z' H : Hp}
theorem sqt_mono (e : Same Z Z') {a : Addr} {xs : List V} (h : SqT K Z a xs) : SqT K Z' a xs := by
  rcases h with (h | ⟨o, h⟩) | h
  · exact .inl (.inl (e _ _ h))
  · exact .inl (.inr ⟨o, e _ _ h⟩)
  · exact .inr h
mutual
theorem RepD.mono (e : Same Z Z') : ∀ {v : V} {d : D}, RepD K Z v d → RepD K Z' v d
  | _, _, .non => .non
  | _, _, .bl b => .bl b
  | _, _, .int i => .int i
  | _, _, .str t => .str t
  | _, _, .tup h r => .tup (sqt_mono e h) (RepDs.mono e r)
  | _, _, .lst h r => .lst (e _ _ h) (RepDs.mono e r)
  | _, _, .scr h r => .scr (e.seq h) (RepDs.mono e r)
  | _, _, .dct h k r => .dct (e _ _ h) k (RepDs.mono e r)
theorem RepDs.mono (e : Same Z Z') : ∀ {vs : List V} {ds : List D}, RepDs K Z vs ds → RepDs K Z' vs ds
  | _, _, .nil => .nil
  | _, _, .cons h r => .cons (RepD.mono e h) (RepDs.mono e r)
end
theorem RepDs.length : ∀ {vs : List V} {ds : List D}, RepDs K Z vs ds → vs.length = ds.length
  | _, _, .nil => rfl
  | _, _, .cons _ r => congrArg (· + 1) r.length
/-- a value as it lies: f tells where the cells are -/
inductive RepW (K : PySem.W.Frag) (Z : Hp) (f : List Addr) : V → W → Prop where
  | d {v : V} {x : D} : RepD K Z v x → RepW K Z f v (.d x)
  | r {n : Nat} {a : Addr} : f[n]? = some a → RepW K Z f (.ref a) (.r n)
inductive RepWs (K : PySem.W.Frag) (Z : Hp) (f : List Addr) : List V → List W → Prop where
  | nil : RepWs K Z f [] []
  | cons {v : V} {vs : List V} {w : W} {ws : List W} : RepW K Z f v w → RepWs K Z f vs ws → RepWs K Z f (v :: vs) (w :: ws)
variable {f f' : List Addr}
theorem RepW.mono (e : Same Z Z') (p : f <+: f') {v : V} {w : W} (h : RepW K Z f v w) : RepW K Z' f' v w := by
  cases h with
  | d h => exact .d (h.mono e)
  | r h =>
    obtain ⟨t, rfl⟩ := p
    exact .r (by rw [List.getElem?_append_left (List.getElem?_eq_some_iff.mp h).1]; exact h)
theorem RepWs.mono (e : Same Z Z') (p : f <+: f') : ∀ {vs : List V} {ws : List W}, RepWs K Z f vs ws → RepWs K Z' f' vs ws
  | _, _, .nil => .nil
  | _, _, .cons h r => .cons (h.mono e p) (RepWs.mono e p r)
theorem RepWs.length : ∀ {vs : List V} {ws : List W}, RepWs K Z f vs ws → vs.length = ws.length
  | _, _, .nil => rfl
  | _, _, .cons _ r => congrArg (· + 1) r.length
theorem RepWs.append : ∀ {vs us : List V} {ws xs : List W}, RepWs K Z f vs ws → RepWs K Z f us xs → RepWs K Z f (vs ++ us) (ws ++ xs)
  | _, _, _, _, .nil, q => q
  | _, _, _, _, .cons h r, q => .cons h (RepWs.append r q)
theorem RepWs.get : ∀ {vs : List V} {ws : List W} {i : Nat} {w : W}, RepWs K Z f vs ws → ws[i]? = some w → ∃ v, vs[i]? = some v ∧ RepW K Z f v w
  | _, _, _, _, .nil, e => by simp at e
  | _, _, 0, _, .cons h _, e => by simp at e; subst e; exact ⟨_, rfl, h⟩
  | _, _, i + 1, w, .cons _ r, e => by
    obtain ⟨v, h1, h2⟩ := RepWs.get (i := i) (w := w) r (by simpa using e)
    exact ⟨v, by simpa using h1, h2⟩
theorem RepWs.set {v : V} {w : W} (h : RepW K Z f v w) : ∀ {vs : List V} {ws : List W} (i : Nat), RepWs K Z f vs ws → RepWs K Z f (vs.set i v) (ws.set i w)
  | _, _, _, .nil => .nil
  | _, _, 0, .cons _ t => .cons h t
  | _, _, i + 1, .cons q t => .cons q (RepWs.set h i t)
theorem RepWs.take : ∀ {vs : List V} {ws : List W} (n : Nat), RepWs K Z f vs ws → RepWs K Z f (vs.take n) (ws.take n)
  | _, _, 0, _ => .nil
  | _, _, _ + 1, .nil => .nil
  | _, _, n + 1, .cons r t => .cons r (RepWs.take n t)
theorem RepWs.drop : ∀ {vs : List V} {ws : List W} (n : Nat), RepWs K Z f vs ws → RepWs K Z f (vs.drop n) (ws.drop n)
  | _, _, 0, r => r
  | _, _, _ + 1, .nil => .nil
  | _, _, n + 1, .cons _ t => RepWs.drop n t
theorem RepDs.append : ∀ {vs us : List V} {ws xs : List D}, RepDs K Z vs ws → RepDs K Z us xs → RepDs K Z (vs ++ us) (ws ++ xs)
  | _, _, _, _, .nil, q => q
  | _, _, _, _, .cons h r, q => .cons h (RepDs.append r q)
theorem RepDs.take : ∀ {vs : List V} {ws : List D} (n : Nat), RepDs K Z vs ws → RepDs K Z (vs.take n) (ws.take n)
  | _, _, 0, _ => .nil
  | _, _, _ + 1, .nil => .nil
  | _, _, n + 1, .cons r t => .cons r (RepDs.take n t)
theorem RepDs.drop : ∀ {vs : List V} {ws : List D} (n : Nat), RepDs K Z vs ws → RepDs K Z (vs.drop n) (ws.drop n)
  | _, _, 0, r => r
  | _, _, _ + 1, .nil => .nil
  | _, _, n + 1, .cons _ t => RepDs.drop n t
theorem RepDs.reverse {vs : List V} {ds : List D} (h : RepDs K Z vs ds) : RepDs K Z vs.reverse ds.reverse := by
  induction vs generalizing ds with
  | nil => cases h; exact .nil
  | cons v vs ih =>
    cases h with
    | cons h r => rw [List.reverse_cons, List.reverse_cons]; exact (ih r).append (.cons h .nil)
theorem RepDs.get : ∀ {vs : List V} {ws : List D} {i : Nat} {w : D}, RepDs K Z vs ws → ws[i]? = some w → ∃ v, vs[i]? = some v ∧ RepD K Z v w
  | _, _, _, _, .nil, e => by simp at e
  | _, _, 0, _, .cons h _, e => by simp at e; subst e; exact ⟨_, rfl, h⟩
  | _, _, i + 1, w, .cons _ r, e => by
    obtain ⟨v, h1, h2⟩ := RepDs.get (i := i) (w := w) r (by simpa using e)
    exact ⟨v, by simpa using h1, h2⟩
theorem RepDs.ws : ∀ {vs : List V} {ds : List D}, RepDs K Z vs ds → RepWs K Z f vs (ds.map .d)
  | _, _, .nil => .nil
  | _, _, .cons h r => .cons (.d h) r.ws
theorem RepWs.ds : ∀ {vs : List V} {ws : List W} {ds : List D}, RepWs K Z f vs ws → toDs ws = some ds → RepDs K Z vs ds
  | _, _, ds, .nil, e => by
    simp [toDs] at e; subst e; exact .nil
  | _, _, ds, .cons (w := w) (ws := ws) h r, e => by
    cases h with
    | d h =>
      simp only [toDs] at e
      cases q : toDs ws with
      | none => rw [q] at e; cases e
      | some xs =>
        rw [q] at e
        simp only [Option.map_some, Option.some.injEq] at e
        subst e
        exact .cons h (r.ds q)
    | r h => simp [toDs] at e

/-! ### the store as it lies -/
def CellAt (K : PySem.W.Frag) (Z : Hp) (f : List Addr) (H : Hp) (a : Addr) : Cell → Prop
  | .lst ws => ∃ vs, H a = some (.lst vs) ∧ RepWs K Z f vs ws
  | .dct ks ws => ∃ kvs, H a = some (.dK kvs) ∧ kvs.map (·.1) = ks.map kyK ∧ RepWs K Z f (kvs.map (·.2)) ws
  | .ins _ _ => False
  | .dead => True
structure RelM (K : PySem.W.Frag) (H Z : Hp) (f : List Addr) (M : Store) : Prop where
  sub : Same Z H
  len : f.length = M.length
  nd : f.Nodup
  cell : ∀ (n : Nat) (c : Cell) (a : Addr), M[n]? = some c → f[n]? = some a → CellAt K Z f H a c
  off : ∀ (n : Nat) (c : Cell) (a : Addr), M[n]? = some c → f[n]? = some a → c = .dead ∨ Z a = none
  inH : ∀ a, a ∈ f → H a ≠ none
structure Stp (Z : Hp) (f : List Addr) (H : Hp) (Z' : Hp) (f' : List Addr) (H' : Hp) : Prop where
  z : Same Z Z'
  pre : f <+: f'
  fr : ∀ a o, H a = some o → a ∉ f → H' a = some o
  dom : ∀ a, H' a = none → H a = none
  nz : ∀ a o, Z' a = some o → Z a = some o ∨ H a = none ∨ a ∈ f
  nf : ∀ a, a ∈ f' → a ∈ f ∨ H a = none
variable {Z1 Z2 H1 H2 : Hp} {f1 f2 : List Addr} {M M1 : Store}
theorem Stp.refl : Stp Z f H Z f H := ⟨Same.refl _, List.prefix_refl _, fun _ _ h _ => h, fun _ h => h, fun _ _ h => .inl h, fun _ h => .inl h⟩
theorem Stp.trans (a : Stp Z f H Z1 f1 H1) (b : Stp Z1 f1 H1 Z2 f2 H2) : Stp Z f H Z2 f2 H2 where
  z := a.z.trans b.z
  pre := a.pre.trans b.pre
  fr := fun x o h n => b.fr x o (a.fr x o h n) fun q => by
    rcases a.nf x q with q | q
    · exact n q
    · rw [h] at q; cases q
  dom := fun x h => a.dom x (b.dom x h)
  nz := fun x o h => by
    rcases b.nz x o h with h | h | h
    · exact a.nz x o h
    · exact .inr (.inl (a.dom x h))
    · rcases a.nf x h with h | h
      · exact .inr (.inr h)
      · exact .inr (.inl h)
  nf := fun x h => by
    rcases b.nf x h with h | h
    · exact a.nf x h
    · exact .inr (a.dom x h)
/-- the slots as they lie -/
structure RelS (K : PySem.W.Frag) (Z : Hp) (f : List Addr) (σ : L2.St) (s : Env) : Prop where
  len : s.length ≤ σ.length
  get : ∀ (i : Nat) (w : W), s[i]? = some (some w) → ∃ v, σ[i]? = some (some v) ∧ RepW K Z f v w
theorem RelS.mono {σ : L2.St} {s : Env} (e : Same Z Z') (p : f <+: f') (h : RelS K Z f σ s) : RelS K Z' f' σ s :=
  ⟨h.len, fun i w q => let ⟨v, a, b⟩ := h.get i w q; ⟨v, a, b.mono e p⟩⟩
theorem RelS.set {σ : L2.St} {s : Env} (h : RelS K Z f σ s) (i : Nat) {v : V} {w : W} (r : RepW K Z f v w) : RelS K Z f (σ.set i (some v)) (s.set i (some w)) := by
  refine ⟨by simpa using h.len, fun j x e => ?_⟩
  by_cases hj : i = j
  · subst hj
    by_cases hl : i < s.length
    · rw [List.getElem?_set_self hl] at e
      have e := Option.some.inj (Option.some.inj e)
      subst e
      exact ⟨v, List.getElem?_set_self (Nat.lt_of_lt_of_le hl h.len), r⟩
    · rw [List.getElem?_eq_none (by simpa using hl)] at e; cases e
  · rw [List.getElem?_set_ne hj] at e ⊢
    exact h.get j x e
theorem RelS.unset {σ : L2.St} {s : Env} (h : RelS K Z f σ s) (i : Nat) : RelS K Z f (σ.set i none) (s.set i none) := by
  refine ⟨by simpa using h.len, fun j x e => ?_⟩
  by_cases hj : i = j
  · subst hj
    by_cases hl : i < s.length
    · rw [List.getElem?_set_self hl] at e; cases e
    · rw [List.getElem?_eq_none (by simpa using hl)] at e; cases e
  · rw [List.getElem?_set_ne hj] at e ⊢
    exact h.get j x e
theorem RelS.wipe {σ : L2.St} {s : Env} (h : RelS K Z f σ s) : ∀ is : List Nat, RelS K Z f (L2.wipe σ is) (TN.wipe s is)
  | [] => h
  | i :: is => (RelS.wipe h is).unset i
theorem mask_get : ∀ (a b : Env) (i : Nat) (w : W), (mask a b)[i]? = some (some w) → b[i]? = some (some w)
  | [], b, i, w, e => by simp [mask] at e
  | none :: a, [], i, w, e => by simp [mask] at e
  | some _ :: a, [], i, w, e => by simp [mask] at e
  | none :: a, y :: b, 0, w, e => by simp [mask] at e
  | none :: a, y :: b, i + 1, w, e => by
    have := mask_get a b i w (by simpa [mask] using e)
    simpa using this
  | some x :: a, y :: b, 0, w, e => by simpa [mask] using e
  | some x :: a, y :: b, i + 1, w, e => by
    have := mask_get a b i w (by simpa [mask] using e)
    simpa using this
theorem mask_len : ∀ (a b : Env), (mask a b).length ≤ b.length
  | [], b => by simp [mask]
  | none :: a, [] => by simp [mask]
  | some _ :: a, [] => by simp [mask]
  | none :: a, y :: b => by simpa [mask] using mask_len a b
  | some _ :: a, y :: b => by simpa [mask] using mask_len a b
theorem RelS.mask {σ : L2.St} {s : Env} (h : RelS K Z f σ s) (s0 : Env) : RelS K Z f σ (mask s0 s) :=
  ⟨Nat.le_trans (mask_len s0 s) h.len, fun i w q => h.get i w (mask_get s0 s i w q)⟩

theorem CellAt.upd {a p : Addr} {c : Cell} {o : HO} (h : CellAt K Z f H a c) (hp : H p = none) (e : Same Z Z') (q : f <+: f') : CellAt K Z' f' (upd H p o) a c := by
  cases c with
  | lst ws =>
    obtain ⟨vs, h1, h2⟩ := h
    exact ⟨vs, by rw [upd_ne (ne_of_none h1 hp)]; exact h1, h2.mono e q⟩
  | dct ks ws =>
    obtain ⟨kvs, h1, h2, h3⟩ := h
    exact ⟨kvs, by rw [upd_ne (ne_of_none h1 hp)]; exact h1, h2, h3.mono e q⟩
  | ins _ _ => exact h.elim
  | dead => trivial
theorem RelM.nin (r : RelM K H Z f M) {p : Addr} (hp : H p = none) : p ∉ f := fun q => r.inH p q hp
theorem RelM.zn (r : RelM K H Z f M) {p : Addr} (hp : H p = none) : Z p = none := by
  cases q : Z p with
  | none => rfl
  | some o => rw [r.sub _ _ q] at hp; cases hp
/-- a new object is frozen -/
theorem RelM.frz (r : RelM K H Z f M) {p : Addr} (hp : H p = none) (o : HO) : RelM K (upd H p o) (upd Z p o) f M ∧ Stp Z f H (upd Z p o) f (upd H p o) := by
  have zn := r.zn hp
  have sz : Same Z (upd Z p o) := fun b u e => by rw [upd_ne (ne_of_none e zn)]; exact e
  have pn := r.nin hp
  refine ⟨⟨fun b u e => ?_, r.len, r.nd, fun n c a h1 h2 => (r.cell n c a h1 h2).upd hp sz (List.prefix_refl _), fun n c a h1 h2 => ?_, fun a ha => ?_⟩, ⟨sz, List.prefix_refl _, fun b u e _ => ?_, fun b e => ?_, fun b u e => ?_, fun _ h => .inl h⟩⟩
  · by_cases hb : b = p
    · subst hb; rw [upd_same] at e ⊢; exact e
    · rw [upd_ne hb] at e ⊢; exact r.sub b u e
  · rcases r.off n c a h1 h2 with q | q
    · exact .inl q
    · refine .inr ?_
      have ne : a ≠ p := fun e => pn (e ▸ List.mem_of_getElem? h2)
      rw [upd_ne ne]
      exact q
  · have ne : a ≠ p := fun e => pn (e ▸ ha)
    rw [upd_ne ne]; exact r.inH a ha
  · rw [upd_ne (ne_of_none e hp)]; exact e
  · by_cases hb : b = p
    · subst hb; exact hp
    · rw [upd_ne hb] at e; exact e
  · by_cases hb : b = p
    · subst hb; exact .inr (.inl hp)
    · rw [upd_ne hb] at e; exact .inl e
/-- a new object is a cell -/
theorem RelM.cel (r : RelM K H Z f M) {p : Addr} (hp : H p = none) {o : HO} {c : Cell} (hc : CellAt K Z (f ++ [p]) (upd H p o) p c) : RelM K (upd H p o) Z (f ++ [p]) (M ++ [c]) ∧ Stp Z f H Z (f ++ [p]) (upd H p o) := by
  have zn := r.zn hp
  have pn := r.nin hp
  have pf : f <+: f ++ [p] := List.prefix_append _ _
  refine ⟨⟨fun b u e => ?_, by simp [r.len], ?_, fun n c' a h1 h2 => ?_, fun n c' a h1 h2 => ?_, fun a ha => ?_⟩, ⟨Same.refl _, pf, fun b u e _ => ?_, fun b e => ?_, fun b u e => .inl e, fun a h => ?_⟩⟩
  · rw [upd_ne (fun q => by subst q; rw [zn] at e; cases e)]; exact r.sub b u e
  · rw [List.nodup_append]
    refine ⟨r.nd, by simp, fun a ha b hb => ?_⟩
    have : b = p := by simpa using hb
    subst this
    exact fun e => pn (e ▸ ha)
  · by_cases hn : n < f.length
    · rw [List.getElem?_append_left hn] at h2
      rw [List.getElem?_append_left (by rw [← r.len]; exact hn)] at h1
      exact (r.cell n c' a h1 h2).upd hp (Same.refl _) pf
    · have e : n = f.length := by
        have := (List.getElem?_eq_some_iff.mp h2).1
        simp at this; omega
      subst e
      rw [r.len, List.getElem?_append_right (Nat.le_refl _)] at h1
      rw [List.getElem?_append_right (Nat.le_refl _)] at h2
      simp at h1 h2
      subst h1 h2
      exact hc
  · by_cases hn : n < f.length
    · rw [List.getElem?_append_left hn] at h2
      rw [List.getElem?_append_left (by rw [← r.len]; exact hn)] at h1
      exact r.off n c' a h1 h2
    · have e : n = f.length := by
        have := (List.getElem?_eq_some_iff.mp h2).1
        simp at this; omega
      subst e
      rw [List.getElem?_append_right (Nat.le_refl _)] at h2
      simp at h2
      subst h2
      exact .inr zn
  · rcases List.mem_append.mp ha with h | h
    · have ne : a ≠ p := fun e => pn (e ▸ h)
      rw [upd_ne ne]; exact r.inH a h
    · have : a = p := by simpa using h
      subst this; rw [upd_same]; exact fun z => nomatch z
  · rw [upd_ne (ne_of_none e hp)]; exact e
  · by_cases hb : b = p
    · subst hb; exact hp
    · rw [upd_ne hb] at e; exact e
  · rcases List.mem_append.mp h with h | h
    · exact .inl h
    · have : a = p := by simpa using h
      subst this; exact .inr hp
/-- a cell is written -/
theorem RelM.write (r : RelM K H Z f M) {n : Nat} {a : Addr} {c c' : Cell} {o : HO} (hm : M[n]? = some c) (hl : c ≠ .dead) (hf : f[n]? = some a) (hc : CellAt K Z f (upd H a o) a c') :
    RelM K (upd H a o) Z f (M.set n c') ∧ Stp Z f H Z f (upd H a o) := by
  have za : Z a = none := (r.off n c a hm hf).resolve_left hl
  have af : a ∈ f := List.mem_of_getElem? hf
  refine ⟨⟨fun b u e => ?_, by simpa using r.len, r.nd, fun m c2 b h1 h2 => ?_, fun m c2 b h1 h2 => ?_, fun b hb => ?_⟩, ⟨Same.refl _, List.prefix_refl _, fun b u e hn => ?_, fun b e => ?_, fun b u e => .inl e, fun b h => .inl h⟩⟩
  · rw [upd_ne (fun q => by subst q; rw [za] at e; cases e)]; exact r.sub b u e
  · by_cases hmn : n = m
    · subst hmn
      rw [List.getElem?_set_self (List.getElem?_eq_some_iff.mp hm).1] at h1
      rw [hf] at h2
      have h1 := Option.some.inj h1
      have h2 := Option.some.inj h2
      subst h1 h2; exact hc
    · rw [List.getElem?_set_ne hmn] at h1
      have ne : b ≠ a := fun q => by
        subst q
        obtain ⟨i1, e1⟩ := List.getElem?_eq_some_iff.mp h2
        obtain ⟨i2, e2⟩ := List.getElem?_eq_some_iff.mp hf
        exact hmn ((List.getElem_inj r.nd).mp (e2.trans e1.symm))
      have old := r.cell m c2 b h1 h2
      cases c2 with
      | lst ws => obtain ⟨vs, q1, q2⟩ := old; exact ⟨vs, by rw [upd_ne ne]; exact q1, q2⟩
      | dct ks ws => obtain ⟨kvs, q1, q2, q3⟩ := old; exact ⟨kvs, by rw [upd_ne ne]; exact q1, q2, q3⟩
      | ins _ _ => exact old.elim
      | dead => trivial
  · by_cases hmn : n = m
    · subst hmn
      rw [hf] at h2
      have h2 := Option.some.inj h2
      subst h2; exact .inr za
    · rw [List.getElem?_set_ne hmn] at h1
      exact r.off m c2 b h1 h2
  · by_cases q : b = a
    · subst q; rw [upd_same]; exact fun z => nomatch z
    · rw [upd_ne q]; exact r.inH b hb
  · have ne : b ≠ a := fun q => hn (q ▸ af)
    rw [upd_ne ne]; exact e
  · by_cases q : b = a
    · subst q; rw [upd_same] at e; cases e
    · rw [upd_ne q] at e; exact e
end

/-! ### what is wanted behind an evaluation -/
/-- how an exception lies -/
abbrev XRT := Exn → Value → Option Addr → Hp → Prop
structure Sx where
  K : PySem.W.Frag
  XR : XRT
  W : WX
section
variable (X : Sx)
/-- the answers of kind α are told by β's; Rp: how -/
def Post {α β : Type} (Rp : Hp → Hp → List Addr → β → α → Prop) (σ : L2.St) (Z : Hp) (f : List Addr) (H : Hp) (r : R (α × Store)) (Q : β → Hp → Prop) : Prop := match r with
  | .ok (x, M') => ∀ b H' Z' f', Stp Z f H Z' f' H' → RelM X.K H' Z' f' M' → Rp H' Z' f' b x → Q b H'
  | .exn x _ M' => ∀ cls d H' Z' f', Stp Z f H Z' f' H' → RelM X.K H' Z' f' M' → X.XR x cls d H' → X.W cls d σ H'
  | .stuck => False
abbrev RpW : Hp → Hp → List Addr → V → W → Prop := fun _ Z f v w => RepW X.K Z f v w
abbrev RpWs : Hp → Hp → List Addr → List V → List W → Prop := fun _ Z f v w => RepWs X.K Z f v w
abbrev RpB : Hp → Hp → List Addr → Bool → Bool → Prop := fun _ _ _ a b => a = b
end
section
variable {X : Sx} {α β γ δ : Type} {Rp : Hp → Hp → List Addr → β → α → Prop} {Rp' : Hp → Hp → List Addr → δ → γ → Prop} {σ : L2.St} {Z H : Hp} {f : List Addr} {M : Store}
theorem Post.mono {r : R (α × Store)} {Q Q' : β → Hp → Prop} (h : Post X Rp σ Z f H r Q) (k : ∀ b H', Q b H' → Q' b H') : Post X Rp σ Z f H r Q' := by
  cases r with
  | ok p => obtain ⟨x, M'⟩ := p; exact fun b H' Z' f' s rm rp => k b H' (h b H' Z' f' s rm rp)
  | exn x s m => exact h
  | stuck => exact h
/-- behind a step -/
theorem Post.step {r : R (α × Store)} {Q : β → Hp → Prop} {Z1 H1 : Hp} {f1 : List Addr} (st : Stp Z f H Z1 f1 H1) (h : Post X Rp σ Z f H r Q) : Post X Rp σ Z1 f1 H1 r Q := by
  cases r with
  | ok p => obtain ⟨x, M'⟩ := p; exact fun b H' Z' f' s rm rp => h b H' Z' f' (st.trans s) rm rp
  | exn x s m => exact fun cls d H' Z' f' s rm xr => h cls d H' Z' f' (st.trans s) rm xr
  | stuck => exact h
theorem Post.bind {r : R (α × Store)} {k : α × Store → R (γ × Store)} {Q : δ → Hp → Prop} (h : Post X Rp' σ Z f H (r.bind k) Q) :
    Post X Rp σ Z f H r fun b H1 => ∃ x Z1 f1 M1, Stp Z f H Z1 f1 H1 ∧ RelM X.K H1 Z1 f1 M1 ∧ Rp H1 Z1 f1 b x ∧ Post X Rp' σ Z1 f1 H1 (k (x, M1)) Q := by
  cases r with
  | ok p =>
    obtain ⟨x, M'⟩ := p
    intro b H' Z' f' s rm rp
    exact ⟨x, Z', f', M', s, rm, rp, Post.step s h⟩
  | exn x s m => exact h
  | stuck => exact h
theorem Post.ok {x : α} {M' : Store} {Q : β → Hp → Prop} (h : Post X Rp σ Z f H (.ok (x, M')) Q) (b : β) (H' Z' : Hp) (f' : List Addr) (s : Stp Z f H Z' f' H') (rm : RelM X.K H' Z' f' M') (rp : Rp H' Z' f' b x) : Q b H' := h b H' Z' f' s rm rp
/-- an answer by a partial function -/
theorem Post.of {o : Option γ} {k : γ → R (α × Store)} {Q : β → Hp → Prop} (h : Post X Rp σ Z f H ((R.of o).bind k) Q) : ∃ x, o = some x ∧ Post X Rp σ Z f H (k x) Q := by
  cases o with
  | none => exact h.elim
  | some x => exact ⟨x, rfl, h⟩
end
theorem _root_.L2.PE.weak {X : Cx} {e : Expr} {t t' : TE} (h : PE X e t) (k : ∀ σ H Q, t' σ H Q → t σ H Q) : PE X e t' := ⟨fun pins s σ H Q I q => h.run pins s σ H Q I (k σ H Q q)⟩
theorem _root_.L2.PT.weak {X : Cx} {e : Expr} {t t' : TT} (h : PT X e t) (k : ∀ σ H Q, t' σ H Q → t σ H Q) : PT X e t' := ⟨fun pins s σ H Q I q => h.run pins s σ H Q I (k σ H Q q)⟩
theorem _root_.L2.PW.weak {X : Cx} {e : Expr} {t t' : TT} (h : PW X e t) (k : ∀ σ H Q, t' σ H Q → t σ H Q) : PW X e t' := ⟨fun wh pins s σ H Q I q => h.run wh pins s σ H Q I (k σ H Q q)⟩
theorem _root_.L2.PA.weak {X : Cx} {e : List Expr} {t t' : TA} (h : PA X e t) (k : ∀ σ H Q, t' σ H Q → t σ H Q) : PA X e t' := ⟨fun pos pins s σ H Q I q => h.run pos pins s σ H Q I (k σ H Q q)⟩
theorem _root_.L2.PI.weak {X : Cx} {tg e : Expr} {t t' : TI} (h : PI X tg e t) (k : ∀ σ H R, t' σ H R → t σ H R) : PI X tg e t' := ⟨fun pins s σ H R I q => h.run pins s σ H R I (k σ H R q)⟩
theorem _root_.L2.PS.weak {X : Cx} {e : Stmt} {t t' : TS} (h : PS X e t) (k : ∀ D σ H, t' D σ H → t D σ H) : PS X e t' := ⟨fun pins s σ H D I q => h.run pins s σ H D I (k D σ H q)⟩
theorem _root_.L2.PSs.weak {X : Cx} {e : List Stmt} {t t' : TS} (h : PSs X e t) (k : ∀ D σ H, t' D σ H → t D σ H) : PSs X e t' := ⟨fun pins s σ H D I q => h.run pins s σ H D I (k D σ H q)⟩
/-! ### the readings -/
section
variable (X : Sx) (Γ : Ctx)
def rd {α β : Type} (Rp : Hp → Hp → List Addr → β → α → Prop) (ev : Env → Store → R (α × Store)) : L2.St → Hp → (β → Hp → Prop) → Prop := fun σ H Q =>
  ∃ s Z f M, RelM X.K H Z f M ∧ RelS X.K Z f σ s ∧ Post X Rp σ Z f H (ev s M) Q
abbrev rdE (e : E) : TE := rd X (RpW X) (evE Γ e)
abbrev rdEs (es : Es) : TA := rd X (RpWs X) (evEs Γ es)
abbrev rdT (e : E) : TT := rd X RpB (evTest Γ e)
end
section
variable {X : Sx} {α β γ δ : Type} {Rp : Hp → Hp → List Addr → β → α → Prop} {Rp' : Hp → Hp → List Addr → δ → γ → Prop} {σ : L2.St} {Z H : Hp} {f : List Addr} {M : Store} {s : Env}
/-- the first of two -/
theorem rd.fst {ev : Env → Store → R (α × Store)} {k : α × Store → R (γ × Store)} {Q : δ → Hp → Prop} {Q1 : β → Hp → Prop} (rm : RelM X.K H Z f M) (rs : RelS X.K Z f σ s) (h : Post X Rp' σ Z f H ((ev s M).bind k) Q)
    (go : ∀ b H1 x Z1 f1 M1, Stp Z f H Z1 f1 H1 → RelM X.K H1 Z1 f1 M1 → RelS X.K Z1 f1 σ s → Rp H1 Z1 f1 b x → Post X Rp' σ Z1 f1 H1 (k (x, M1)) Q → Q1 b H1) : rd X Rp ev σ H Q1 :=
  ⟨s, Z, f, M, rm, rs, (Post.bind (Rp := Rp) h).mono fun b H1 ⟨x, Z1, f1, M1, st, rm1, rp, p⟩ => go b H1 x Z1 f1 M1 st rm1 (rs.mono st.z st.pre) rp p⟩
end
end TN

/-! TNc: operators on values keep what they say. -/
namespace TN
open PySem PySem.Spec PyProof.Rows L2
/-! ### data as the library's -/
mutual
def D.py : D → PyData
  | .non => .none
  | .bl b => .bool b
  | .int i => .int i
  | .str s => .str (toS s)
  | .tup xs => .tuple (D.pys xs)
  | .lst xs => .list (D.pys xs)
  | .dct _ _ => .dict []
  | .scr xs => .list (D.pys xs)
def D.pys : List D → List PyData
  | [] => []
  | x :: xs => D.py x :: D.pys xs
end
mutual
theorem py_lay : ∀ d : D, d.lay = true → d.py.canLay0 = true
  | .non, _ => by simp [D.py, PyData.canLay0]
  | .bl b, _ => by simp [D.py, PyData.canLay0]
  | .int i, _ => by simp [D.py, PyData.canLay0]
  | .str s, h => by
    simp only [D.lay] at h
    simp only [D.py, PyData.canLay0, PyData.strOk]
    simpa using h
  | .tup xs, h => by simp only [D.py, PyData.canLay0]; exact pys_lay xs h
  | .lst xs, h => by simp only [D.py, PyData.canLay0]; exact pys_lay xs h
  | .dct _ _, h => by simp [D.lay] at h
  | .scr _, h => by simp [D.lay] at h
theorem pys_lay : ∀ ds : List D, D.lays ds = true → PyData.canLayAll0 (D.pys ds) = true
  | [], _ => by simp [D.pys, PyData.canLayAll0]
  | d :: ds, h => by
    simp only [D.lays, Bool.and_eq_true] at h
    simp only [D.pys, PyData.canLayAll0, Bool.and_eq_true]
    exact ⟨py_lay d h.1, pys_lay ds h.2⟩
end
mutual
theorem py_dep : ∀ d : D, d.lay = true → d.py.depth = d.dep
  | .non, _ => by simp [D.py, PyData.depth, D.dep]
  | .bl b, _ => by simp [D.py, PyData.depth, D.dep]
  | .int i, _ => by simp [D.py, PyData.depth, D.dep]
  | .str s, _ => by simp [D.py, PyData.depth, D.dep]
  | .tup xs, h => by simp only [D.py, PyData.depth, D.dep]; rw [pys_dep xs h] <;> omega
  | .lst xs, h => by simp only [D.py, PyData.depth, D.dep]; rw [pys_dep xs h] <;> omega
  | .dct _ _, h => by simp [D.lay] at h
  | .scr _, h => by simp [D.lay] at h
theorem pys_dep : ∀ ds : List D, D.lays ds = true → PyData.depthAll (D.pys ds) = D.deps ds
  | [], _ => by simp [D.pys, PyData.depthAll, D.deps]
  | d :: ds, h => by
    simp only [D.lays, Bool.and_eq_true] at h
    simp only [D.pys, PyData.depthAll, D.deps]
    rw [py_dep d h.1, pys_dep ds h.2]
end
theorem toS_beq (a b : Tx) : (toS a == toS b) = decide (a = b) := by
  by_cases h : a = b
  · subst h; simp
  · have : toS a ≠ toS b := fun e => h (toS_inj e)
    simp [h, this]
mutual
theorem py_eqv : ∀ a b : D, a.lay = true → b.lay = true → PyData.eqv a.py b.py = a.eqv b
  | a, b, ha, hb => by
    cases a <;> cases b <;> first
      | (simp [D.lay] at ha; done)
      | (simp [D.lay] at hb; done)
      | (simp only [D.py, PyData.eqv, D.eqv]; done)
      | (simp only [D.py, PyData.eqv, D.eqv]; exact toS_beq _ _)
      | (simp only [D.py, PyData.eqv, D.eqv]; exact pys_eqv _ _ ha hb)
theorem pys_eqv : ∀ a b : List D, D.lays a = true → D.lays b = true → PyData.eqvAll (D.pys a) (D.pys b) = D.eqvs a b
  | [], [], _, _ => by simp [D.pys, PyData.eqvAll, D.eqvs]
  | [], _ :: _, _, _ => by simp [D.pys, PyData.eqvAll, D.eqvs]
  | _ :: _, [], _, _ => by simp [D.pys, PyData.eqvAll, D.eqvs]
  | x :: xs, y :: ys, ha, hb => by
    simp only [D.lays, Bool.and_eq_true] at ha hb
    simp only [D.pys, PyData.eqvAll, D.eqvs]
    rw [py_eqv x y ha.1 hb.1, pys_eqv xs ys ha.2 hb.2]
end
theorem pys_any (x : D) (hx : x.lay = true) : ∀ ds : List D, D.lays ds = true → ((D.pys ds).any fun z => PyData.eqv z x.py) = ds.any fun z => z.eqv x
  | [], _ => by simp [D.pys]
  | d :: ds, h => by
    simp only [D.lays, Bool.and_eq_true] at h
    simp only [D.pys, List.any_cons]
    rw [py_eqv d x h.1 hx, pys_any x hx ds h.2]
section
variable {K : PySem.W.Frag} {H Z : Hp} {f : List Addr} {M : Store}
mutual
theorem RepD.dp (e : Same Z H) : ∀ {v : V} {d : D}, RepD K Z v d → d.lay = true → Dp K H v d.py
  | _, _, .non, _ => .non
  | _, _, .bl b, _ => .bl b
  | _, _, .int i, _ => .int i
  | _, _, .str t, _ => .str _
  | _, _, .tup h r, l => .tup (sqt_mono e h) (RepDs.dp e r l)
  | _, _, .lst h r, l => .lst (SqL.of (e _ _ h)) (RepDs.dp e r l)
  | _, _, .scr h r, l => by simp [D.lay] at l
  | _, _, .dct h k r, l => by simp [D.lay] at l
theorem RepDs.dp (e : Same Z H) : ∀ {vs : List V} {ds : List D}, RepDs K Z vs ds → D.lays ds = true → DpAll K H vs (D.pys ds)
  | _, _, .nil, _ => .nil
  | _, _, .cons h r, l => by
    simp only [D.lays, Bool.and_eq_true] at l
    exact .cons (RepD.dp e h l.1) (RepDs.dp e r l.2)
end
/-- flat data -/
theorem RepD.flat {v : V} {d : D} (h : RepD K Z v d) (l : d.flat = true) : flatV v = true ∧ ∀ {v' : V} {d' : D}, RepD K Z v' d' → d'.flat = true → eqV v v' = d.eqv d' := by
  cases h <;> first
    | (simp [D.flat] at l; done)
    | (refine ⟨rfl, fun h' l' => ?_⟩
       cases h' <;> first
         | (simp [D.flat] at l'; done)
         | (simp only [eqV, D.eqv]; done)
         | (simp only [eqV, D.eqv]; exact toS_beq _ _))
theorem RepDs.flats {vs : List V} {ds : List D} (h : RepDs K Z vs ds) (l : ds.all D.flat = true) : vs.all flatV = true ∧ ∀ {v : V} {d : D}, RepD K Z v d → d.flat = true → inV v vs = ds.any fun z => z.eqv d := by
  induction vs generalizing ds with
  | nil => cases h; exact ⟨rfl, fun _ _ => rfl⟩
  | cons v vs ih =>
    cases h with
    | cons h r =>
      simp only [List.all_cons, Bool.and_eq_true] at l
      obtain ⟨i1, i2⟩ := ih r l.2
      obtain ⟨j1, j2⟩ := h.flat l.1
      refine ⟨by simp [j1, i1], fun hx lx => ?_⟩
      have e := i2 hx lx
      unfold inV at e ⊢
      rw [List.any_cons, List.any_cons, e, j2 hx lx]
/-! ### a sequence as it lies -/
/-- w's items, by the abstract heap -/
theorem seq_ok (rm : RelM K H Z f M) {v : V} {w : W} {ws : List W} (r : RepW K Z f v w) (h : seqOf M w = some ws) : ∃ a vs, v = .ref a ∧ (SqL K H a vs ∨ SqT K H a vs) ∧ RepWs K Z f vs ws := by
  cases r with
  | d r =>
    cases r <;> simp only [seqOf] at h <;> try (cases h; done)
    · cases h; rename_i a vs ds h1 h2; exact ⟨a, vs, rfl, .inr (sqt_mono rm.sub h1), h2.ws⟩
    · cases h; rename_i a vs ds h1 h2; exact ⟨a, vs, rfl, .inl (SqL.of (rm.sub _ _ h1)), h2.ws⟩
    · cases h; rename_i a vs ds h1 h2; exact ⟨a, vs, rfl, .inl (rm.sub.seq h1), h2.ws⟩
  | r q =>
    rename_i n a
    simp only [seqOf] at h
    split at h
    · rename_i us e
      cases h
      obtain ⟨vs, h1, h2⟩ := rm.cell _ _ _ e q
      exact ⟨a, vs, rfl, .inl (SqL.of h1), h2⟩
    · cases h
/-- a list's items -/
theorem list_ok (rm : RelM K H Z f M) {v : V} {w : W} {ws : List W} (r : RepW K Z f v w) (h : listOf M w = some ws) : ∃ a vs, v = .ref a ∧ H a = some (.lst vs) ∧ RepWs K Z f vs ws := by
  cases r with
  | d r =>
    cases r <;> simp only [listOf] at h <;> try (cases h; done)
    cases h; rename_i a vs ds h1 h2; exact ⟨a, vs, rfl, rm.sub _ _ h1, h2.ws⟩
  | r q =>
    rename_i n a
    simp only [listOf] at h
    split at h
    · rename_i us e
      cases h
      obtain ⟨vs, h1, h2⟩ := rm.cell _ _ _ e q
      exact ⟨a, vs, rfl, h1, h2⟩
    · cases h
theorem line_eq : line = sizeLine := by rw [sizeLine_eq]; rfl
theorem toS_len (t : Tx) : (toS t).length = t.length := by simp [Str.length]
theorem len_dct {kvs : List (Key × V)} {ks : List Ky} (h : kvs.map (·.1) = ks.map kyK) : kvs.length = ks.length := by
  have := congrArg List.length h
  simpa using this
theorem emp_iff {α : Type} (xs : List α) : (!xs.isEmpty) = ((xs.length : Nat) != 0) := by cases xs <;> simp
theorem tru_sem (rm : RelM K H Z f M) {v : V} {w : W} {b : Bool} (r : RepW K Z f v w) (h : tru M w = some b) : TruV K v H b := by
  cases r with
  | d r =>
    cases r with
    | non => simp [tru] at h; subst h; rfl
    | bl x => simp [tru] at h; subst h; rfl
    | int i => simp [tru] at h; subst h; rfl
    | str t =>
      simp only [tru, lenOf] at h
      split at h
      · rename_i hl
        simp only [Option.map_some, Option.some.injEq] at h
        subst h
        refine ⟨by rw [toS_len, ← line_eq]; exact hl, ?_⟩
        rw [toS_len]
        cases t with
        | nil => rfl
        | cons c t =>
          have h1 : ((c :: t).length != 0) = true := by simp
          have h2 : ((((c :: t).length : Nat) : Int) != 0) = true := by simp; omega
          rw [h1, h2]
      · cases h
    | tup h1 h2 =>
      simp only [tru, lenOf, Option.map_some, Option.some.injEq] at h
      subst h
      exact .inr (.inl ⟨_, sqt_mono rm.sub h1, by rw [emp_iff, h2.length]⟩)
    | lst h1 h2 =>
      simp only [tru, lenOf, Option.map_some, Option.some.injEq] at h
      subst h
      exact .inl ⟨_, SqL.of (rm.sub _ _ h1), by rw [emp_iff, h2.length]⟩
    | scr h1 h2 =>
      simp only [tru, lenOf, Option.map_some, Option.some.injEq] at h
      subst h
      exact .inl ⟨_, rm.sub.seq h1, by rw [emp_iff, h2.length]⟩
    | dct h1 h2 h3 =>
      simp only [tru, lenOf, Option.map_some, Option.some.injEq] at h
      subst h
      exact .inr (.inr ⟨_, rm.sub _ _ h1, by rw [emp_iff, len_dct h2]⟩)
  | r q =>
    rename_i n a
    simp only [tru, lenOf] at h
    split at h
    · rename_i us e
      cases h
      obtain ⟨vs, h1, h2⟩ := rm.cell _ _ _ e q
      exact .inl ⟨_, SqL.of h1, by rw [emp_iff, h2.length]⟩
    · rename_i ks us e
      cases h
      obtain ⟨kvs, h1, h2, h3⟩ := rm.cell _ _ _ e q
      exact .inr (.inr ⟨_, h1, by rw [emp_iff, len_dct h2]⟩)
    · cases h
end
end TN

/-! TNd: operators, built-ins, by values. -/
namespace TN
open PySem PySem.Spec PyProof.Rows L2
def pyB : Bop → Operator
  | .add => .Add
  | .sub => .Sub
  | .mul => .Mult
  | .fdiv => .FloorDiv
  | .mod => .Mod
  | .pow => .Pow
def pyC : Cop → CmpOp
  | .eq => .Eq
  | .ne => .NotEq
  | .lt => .Lt
  | .le => .LtE
  | .gt => .Gt
  | .ge => .GtE
  | .isIn => .In
  | .notIn => .NotIn
  | .is_ => .Is
  | .isNot => .IsNot
/-- what is wanted of an answer that changes no cell: it lies in some further heap -/
def Ans (K : PySem.W.Frag) (Z : Hp) (f : List Addr) (H : Hp) (M : Store) (w : W) (Q : VK) : Prop := ∀ v H' Z' f', Stp Z f H Z' f' H' → RelM K H' Z' f' M → RepW K Z' f' v w → Q v H'
section
variable {X : Cx} {Z H : Hp} {f : List Addr} {M : Store}
theorem Ans.here {K : PySem.W.Frag} {w : W} {Q : VK} (h : Ans K Z f H M w Q) (rm : RelM K H Z f M) {v : V} (r : RepW K Z f v w) : Q v H := h v H Z f Stp.refl rm r
theorem Ans.frz {K : PySem.W.Frag} {w : W} {Q : VK} (h : Ans K Z f H M w Q) (rm : RelM K H Z f M) {v : V} {p : Addr} {o : HO} (hp : H p = none) (r : RepW K (upd Z p o) f v w) : Q v (upd H p o) :=
  let ⟨a, b⟩ := rm.frz hp o
  h v _ _ _ b a r
theorem upd_self_sqt {K : PySem.W.Frag} {p : Addr} {vs : List V} : SqT K (upd Z p (.tup vs)) p vs := .inl (.inl upd_same)
theorem same_upd {p : Addr} {o : HO} (h : Z p = none) : Same Z (upd Z p o) := fun b u e => by rw [upd_ne (ne_of_none e h)]; exact e
def rMulS : R2 := fun x y H Q => ∃ (a : PySem.Str) (j : Int), x = .str a ∧ y = .int j ∧ ((j = 0 ∧ Q (.str (toS [])) H) ∨ (j = 1 ∧ Q (.str a) H))
theorem op_mulS : OpR X (binaryOp .Mult) rMulS := by
  intro pins s σ H x y v u Q I rx ry h
  obtain ⟨a, j, rfl, rfl, h⟩ := h
  obtain ⟨t, rfl⟩ := rx
  obtain ⟨t', rfl⟩ := ry
  rcases h with ⟨rfl, q⟩ | ⟨rfl, q⟩
  · exact P.mul_str_none (by decide) (by decide) ⟨.str (toS []), H, I.tok _, ⟨_, rfl⟩, q⟩
  · refine P.mul_str (by decide) (fun _ z => by simp at z) (fun _ z => by simp at z) ?_
    rw [if_neg (by decide), if_pos (by simp)]
    exact ⟨.str a, H, I, ⟨t, rfl⟩, q⟩
theorem bin_ok (o : Bop) : ∃ r : R2, OpR X (binaryOp (pyB o)) r ∧ ∀ {Z H : Hp} {f : List Addr} {M : Store} {x y w : W} {v1 v2 : V} {Q : VK}, RelM X.K H Z f M → RepW X.K Z f v1 x → RepW X.K Z f v2 y → binSem o x y = some w → Ans X.K Z f H M w Q → r v1 v2 H Q := by
  cases o with
  | add =>
    refine ⟨_, op_add.or (op_add_str.or op_catA), fun {Z H f M x y w v1 v2 Q} rm r1 r2 h q => ?_⟩
    cases r1 with
    | r _ => simp [binSem] at h
    | d r1 =>
      cases r2 with
      | r _ => cases r1 <;> simp [binSem] at h
      | d r2 =>
        cases r1 <;> cases r2 <;> simp only [binSem] at h <;> try (cases h; done)
        · cases h; exact .inl ⟨_, _, rfl, rfl, q.here rm (.d (.int _))⟩
        · split at h
          · rename_i a b hl
            cases h
            refine .inr (.inl ⟨_, _, rfl, rfl, by rw [toS_len, toS_len, ← line_eq]; exact hl, ?_⟩)
            have e : toS a ++ toS b = toS (a ++ b) := by show Str.append _ _ = _; simp [Str.append]
            rw [e]
            exact q.here rm (.d (.str _))
          · cases h
        · split at h
          · rename_i a vs ds t1 u1 b us es t2 u2 hl
            cases h
            refine .inr (.inr ⟨_, _, vs, us, rfl, rfl, sqt_mono rm.sub t1, sqt_mono rm.sub t2, by rw [u1.length, u2.length, ← line_eq]; exact hl, fun e => ?_, fun e e2 => ?_, fun _ _ p hp => ?_⟩)
            · subst e; cases u1; exact q.here rm (.d (.tup t2 u2))
            · subst e2; cases u2; rw [List.append_nil] at q; exact q.here rm (.d (.tup t1 u1))
            · have sz := same_upd (o := HO.tup (vs ++ us)) (rm.zn hp)
              exact q.frz rm hp (.d (.tup upd_self_sqt ((u1.mono sz).append (u2.mono sz))))
          · cases h
  | sub =>
    refine ⟨_, op_sub, fun {Z H f M x y w v1 v2 Q} rm r1 r2 h q => ?_⟩
    cases r1 with
    | r _ => simp [binSem] at h
    | d r1 =>
      cases r2 with
      | r _ => cases r1 <;> simp [binSem] at h
      | d r2 =>
        cases r1 <;> cases r2 <;> simp only [binSem] at h <;> try (cases h; done)
        cases h; exact ⟨_, _, rfl, rfl, q.here rm (.d (.int _))⟩
  | mul =>
    refine ⟨_, op_mul.or op_mulS, fun {Z H f M x y w v1 v2 Q} rm r1 r2 h q => ?_⟩
    cases r1 with
    | r _ => simp [binSem] at h
    | d r1 =>
      cases r2 with
      | r _ => cases r1 <;> simp [binSem] at h
      | d r2 =>
        cases r1 <;> cases r2 <;> simp only [binSem] at h <;> try (cases h; done)
        · split at h
          · rename_i i j hl
            cases h
            refine .inl ⟨_, _, rfl, rfl, ?_, q.here rm (.d (.int _))⟩
            have hl := (Bool.or_comm _ _).trans hl
            simpa [CMul, sm64] using hl
          · cases h
        · refine .inr ⟨_, _, rfl, rfl, ?_⟩
          split at h
          · rename_i hj
            cases h
            exact .inl ⟨hj, q.here rm (.d (.str _))⟩
          · split at h
            · rename_i hj
              cases h
              exact .inr ⟨hj, q.here rm (.d (.str _))⟩
            · cases h
  | fdiv =>
    refine ⟨_, op_fdiv, fun {Z H f M x y w v1 v2 Q} rm r1 r2 h q => ?_⟩
    cases r1 with
    | r _ => simp [binSem] at h
    | d r1 =>
      cases r2 with
      | r _ => cases r1 <;> simp [binSem] at h
      | d r2 =>
        cases r1 <;> cases r2 <;> simp only [binSem] at h <;> try (cases h; done)
        split at h
        · rename_i i j hl
          cases h
          exact ⟨_, _, rfl, rfl, hl, q.here rm (.d (.int _))⟩
        · cases h
  | mod =>
    refine ⟨_, op_mod, fun {Z H f M x y w v1 v2 Q} rm r1 r2 h q => ?_⟩
    cases r1 with
    | r _ => simp [binSem] at h
    | d r1 =>
      cases r2 with
      | r _ => cases r1 <;> simp [binSem] at h
      | d r2 =>
        cases r1 <;> cases r2 <;> simp only [binSem] at h <;> try (cases h; done)
        split at h
        · rename_i i j hl
          cases h
          exact ⟨_, _, rfl, rfl, hl, q.here rm (.d (.int _))⟩
        · cases h
  | pow =>
    refine ⟨_, op_pow, fun {Z H f M x y w v1 v2 Q} rm r1 r2 h q => ?_⟩
    cases r1 with
    | r _ => simp [binSem] at h
    | d r1 =>
      cases r2 with
      | r _ => cases r1 <;> simp [binSem] at h
      | d r2 =>
        cases r1 <;> cases r2 <;> simp only [binSem] at h <;> try (cases h; done)
        split at h
        · rename_i i j hl
          cases h
          exact ⟨_, _, rfl, rfl, hl, q.here rm (.d (.int _))⟩
        · cases h

/-! ### comparisons -/
theorem flat_ne {v1 v2 : V} {d1 d2 : D} {K : PySem.W.Frag} (r1 : RepD K Z v1 d1) (r2 : RepD K Z v2 d2) (l1 : d1.flat = true) (l2 : d2.flat = true) : eqV v1 v2 = d1.eqv d2 := (r1.flat l1).2 r2 l2
/-- == of flat values, bools beside ints too -/
def rEqF : R2 := fun x y H Q => flatV x = true ∧ flatV y = true ∧ Q (.bl (eqV x y)) H
def rNeF : R2 := fun x y H Q => flatV x = true ∧ flatV y = true ∧ Q (.bl (!eqV x y)) H
def rEqP (K : PySem.W.Frag) : R2 := fun x y H Q => ∃ d e, Dp K H x d ∧ Dp K H y e ∧ d.canLay0 = true ∧ e.canLay0 = true ∧ min d.depth e.depth ≤ 100 ∧ Q (.bl (PyData.eqv d e)) H
def rNeP (K : PySem.W.Frag) : R2 := fun x y H Q => ∃ d e, Dp K H x d ∧ Dp K H y e ∧ d.canLay0 = true ∧ e.canLay0 = true ∧ min d.depth e.depth ≤ 100 ∧ Q (.bl (!PyData.eqv d e)) H
def rInP (K : PySem.W.Frag) (neg : Bool) : R2 := fun x y H Q => ∃ d ds, Dp K H x d ∧ (Dp K H y (.list ds) ∨ Dp K H y (.tuple ds)) ∧ PyData.canLayAll0 ds = true ∧ d.canLay0 = true ∧ d.depth ≤ 100 ∧ Q (.bl (if neg then !(ds.any fun z => PyData.eqv z d) else ds.any fun z => PyData.eqv z d)) H
theorem op_eqP (hu : X.A.units + 200 < cLine) : OpR X (compareOp .Eq) (rEqP X.K) := by
  intro pins s σ H x y v u Q I rx ry h
  obtain ⟨d, e, hd, he, sd, se, hm, q⟩ := h
  obtain ⟨as, r1⟩ := Dp.reads I d x v hd rx
  obtain ⟨bs, r2⟩ := Dp.reads I e y u he ry
  exact SeqAt.compareEq_reads r1 r2 sd se (by omega) ⟨.bl _, H, I, rfl, q⟩
theorem op_neP (hu : X.A.units + 200 < cLine) : OpR X (compareOp .NotEq) (rNeP X.K) := by
  intro pins s σ H x y v u Q I rx ry h
  obtain ⟨d, e, hd, he, sd, se, hm, q⟩ := h
  obtain ⟨as, r1⟩ := Dp.reads I d x v hd rx
  obtain ⟨bs, r2⟩ := Dp.reads I e y u he ry
  exact SeqAt.compareNe_reads r1 r2 sd se (by omega) ⟨.bl _, H, I, rfl, q⟩
theorem op_inP (hu : X.A.units + 200 < cLine) : OpR X (compareOp .In) (rInP X.K false) := by
  intro pins s σ H x y v u Q I rx ry h
  obtain ⟨d, ds, hd, he, sd, se, hm, q⟩ := h
  obtain ⟨as, r1⟩ := Dp.reads I d x v hd rx
  have hr : X.A.units + 1 + min (PyData.depthAll ds) d.depth < cLine := by
    have := Nat.min_le_right (PyData.depthAll ds) d.depth
    omega
  rcases he with he | he
  · obtain ⟨bs, r2⟩ := Dp.reads I _ y u he ry
    exact SeqAt.in_list_reads r2 r1 sd se hr ⟨.bl _, H, I, rfl, q⟩
  · obtain ⟨bs, r2⟩ := Dp.reads I _ y u he ry
    exact SeqAt.in_tuple_reads r2 r1 sd se hr ⟨.bl _, H, I, rfl, q⟩
theorem op_notInP (hu : X.A.units + 200 < cLine) : OpR X (compareOp .NotIn) (rInP X.K true) := by
  intro pins s σ H x y v u Q I rx ry h
  obtain ⟨d, ds, hd, he, sd, se, hm, q⟩ := h
  obtain ⟨as, r1⟩ := Dp.reads I d x v hd rx
  have hr : X.A.units + 1 + min (PyData.depthAll ds) d.depth < cLine := by
    have := Nat.min_le_right (PyData.depthAll ds) d.depth
    omega
  rcases he with he | he
  · obtain ⟨bs, r2⟩ := Dp.reads I _ y u he ry
    exact SeqAt.notIn_list_reads r2 r1 sd se hr ⟨.bl _, H, I, rfl, q⟩
  · obtain ⟨bs, r2⟩ := Dp.reads I _ y u he ry
    exact SeqAt.notIn_tuple_reads r2 r1 sd se hr ⟨.bl _, H, I, rfl, q⟩
theorem op_eqF : OpR X (compareOp .Eq) rEqF := by
  intro pins s σ H x y v u Q I rx ry h
  obtain ⟨fx, fy, q⟩ := h
  cases x <;> (try (cases fx; done)) <;> cases y <;> (try (cases fy; done))
  · cases rx; cases ry; exact SeqAt.RcAt.none_none _ _ _ _ ⟨.bl _, H, I, rfl, q⟩
  · cases rx; cases ry; exact SeqAt.RcAt.none_bool _ _ _ _ _ ⟨.bl _, H, I, rfl, q⟩
  · cases rx; obtain ⟨t', rfl⟩ := ry; exact SeqAt.RcAt.none_int _ _ _ _ _ _ ⟨.bl _, H, I, rfl, q⟩
  · cases rx; obtain ⟨t', rfl⟩ := ry; exact SeqAt.RcAt.none_str _ _ _ _ _ _ ⟨.bl _, H, I, rfl, q⟩
  · cases rx; cases ry; exact SeqAt.RcAt.bool_none _ _ _ _ _ ⟨.bl _, H, I, rfl, q⟩
  · cases rx; cases ry; exact SeqAt.RcAt.bool_bool _ _ _ _ _ _ ⟨.bl _, H, I, rfl, q⟩
  · cases rx; obtain ⟨t', rfl⟩ := ry; exact SeqAt.RcAt.bool_int _ _ _ _ _ _ _ ⟨.bl _, H, I, rfl, q⟩
  · cases rx; obtain ⟨t', rfl⟩ := ry; exact SeqAt.RcAt.bool_str _ _ _ _ _ _ _ ⟨.bl _, H, I, rfl, q⟩
  · obtain ⟨t, rfl⟩ := rx; cases ry; exact SeqAt.RcAt.int_none _ _ _ _ _ _ ⟨.bl _, H, I, rfl, q⟩
  · obtain ⟨t, rfl⟩ := rx; cases ry; exact SeqAt.RcAt.int_bool _ _ _ _ _ _ _ ⟨.bl _, H, I, rfl, q⟩
  · obtain ⟨t, rfl⟩ := rx; obtain ⟨t', rfl⟩ := ry; exact SeqAt.RcAt.int_int _ _ _ _ _ _ _ _ ⟨.bl _, H, I, rfl, q⟩
  · obtain ⟨t, rfl⟩ := rx; obtain ⟨t', rfl⟩ := ry; exact SeqAt.RcAt.int_str _ _ _ _ _ _ _ _ ⟨.bl _, H, I, rfl, q⟩
  · obtain ⟨t, rfl⟩ := rx; cases ry; exact SeqAt.RcAt.str_none _ _ _ _ _ _ ⟨.bl _, H, I, rfl, q⟩
  · obtain ⟨t, rfl⟩ := rx; cases ry; exact SeqAt.RcAt.str_bool _ _ _ _ _ _ _ ⟨.bl _, H, I, rfl, q⟩
  · obtain ⟨t, rfl⟩ := rx; obtain ⟨t', rfl⟩ := ry; exact SeqAt.RcAt.str_int _ _ _ _ _ _ _ _ ⟨.bl _, H, I, rfl, q⟩
  · obtain ⟨t, rfl⟩ := rx; obtain ⟨t', rfl⟩ := ry; exact SeqAt.RcAt.str_str _ _ _ _ _ _ _ _ ⟨.bl _, H, I, rfl, q⟩
theorem op_neF : OpR X (compareOp .NotEq) rNeF := by
  intro pins s σ H x y v u Q I rx ry h
  obtain ⟨fx, fy, q⟩ := h
  cases x <;> (try (cases fx; done)) <;> cases y <;> (try (cases fy; done))
  · cases rx; cases ry; exact SeqAt.RcNeAt.none_none _ _ _ _ ⟨.bl _, H, I, rfl, q⟩
  · cases rx; cases ry; exact SeqAt.RcNeAt.none_bool _ _ _ _ _ ⟨.bl _, H, I, rfl, q⟩
  · cases rx; obtain ⟨t', rfl⟩ := ry; exact SeqAt.RcNeAt.none_int _ _ _ _ _ _ ⟨.bl _, H, I, rfl, q⟩
  · cases rx; obtain ⟨t', rfl⟩ := ry; exact SeqAt.RcNeAt.none_str _ _ _ _ _ _ ⟨.bl _, H, I, rfl, q⟩
  · cases rx; cases ry; exact SeqAt.RcNeAt.bool_none _ _ _ _ _ ⟨.bl _, H, I, rfl, q⟩
  · cases rx; cases ry; exact SeqAt.RcNeAt.bool_bool _ _ _ _ _ _ ⟨.bl _, H, I, rfl, q⟩
  · cases rx; obtain ⟨t', rfl⟩ := ry; exact SeqAt.RcNeAt.bool_int _ _ _ _ _ _ _ ⟨.bl _, H, I, rfl, q⟩
  · cases rx; obtain ⟨t', rfl⟩ := ry; exact SeqAt.RcNeAt.bool_str _ _ _ _ _ _ _ ⟨.bl _, H, I, rfl, q⟩
  · obtain ⟨t, rfl⟩ := rx; cases ry; exact SeqAt.RcNeAt.int_none _ _ _ _ _ _ ⟨.bl _, H, I, rfl, q⟩
  · obtain ⟨t, rfl⟩ := rx; cases ry; exact SeqAt.RcNeAt.int_bool _ _ _ _ _ _ _ ⟨.bl _, H, I, rfl, q⟩
  · obtain ⟨t, rfl⟩ := rx; obtain ⟨t', rfl⟩ := ry; exact SeqAt.RcNeAt.int_int _ _ _ _ _ _ _ _ ⟨.bl _, H, I, rfl, q⟩
  · obtain ⟨t, rfl⟩ := rx; obtain ⟨t', rfl⟩ := ry; exact SeqAt.RcNeAt.int_str _ _ _ _ _ _ _ _ ⟨.bl _, H, I, rfl, q⟩
  · obtain ⟨t, rfl⟩ := rx; cases ry; exact SeqAt.RcNeAt.str_none _ _ _ _ _ _ ⟨.bl _, H, I, rfl, q⟩
  · obtain ⟨t, rfl⟩ := rx; cases ry; exact SeqAt.RcNeAt.str_bool _ _ _ _ _ _ _ ⟨.bl _, H, I, rfl, q⟩
  · obtain ⟨t, rfl⟩ := rx; obtain ⟨t', rfl⟩ := ry; exact SeqAt.RcNeAt.str_int _ _ _ _ _ _ _ _ ⟨.bl _, H, I, rfl, q⟩
  · obtain ⟨t, rfl⟩ := rx; obtain ⟨t', rfl⟩ := ry; exact SeqAt.RcNeAt.str_str _ _ _ _ _ _ _ _ ⟨.bl _, H, I, rfl, q⟩
def rInK (neg : Bool) : R2 := fun x y H Q => ∃ a o, y = .ref a ∧ DGet H a x o ∧ Q (.bl (if neg then !o.isSome else o.isSome)) H
theorem op_inK (hu : X.A.units + 200 < cLine) : OpR X (compareOp .In) (rInK false) := by
  intro pins s σ H x y v u Q I rx ry h
  obtain ⟨a, o, rfl, g, q⟩ := h
  cases ry
  exact d_in (by omega) I g rx fun s' I' => ⟨.bl _, H, I', rfl, q⟩
theorem op_notInK (hu : X.A.units + 200 < cLine) : OpR X (compareOp .NotIn) (rInK true) := by
  intro pins s σ H x y v u Q I rx ry h
  obtain ⟨a, o, rfl, g, q⟩ := h
  cases ry
  exact d_notIn (by omega) I g rx fun s' I' => ⟨.bl _, H, I', rfl, q⟩
end
end TN

/-! TNe: comparisons, subscripts, built-ins by values, further. -/
namespace TN
open PySem PySem.Spec PyProof.Rows L2
section
variable {X : Cx} {Z H : Hp} {f : List Addr} {M : Store} {K : PySem.W.Frag}
theorem ky_rep {v : V} {d : D} {k : Ky} (r : RepD K Z v d) (h : kyOf d = some k) : v = kV (kyK k) := by
  cases r <;> simp [kyOf] at h <;> subst h <;> rfl
theorem kv_get {kvs : List (Key × V)} : ∀ {ks : List Ky} {ws : List W} (k : Ky), kvs.map (·.1) = ks.map kyK → RepWs K Z f (kvs.map (·.2)) ws →
    (match dget k ks ws with | some w => ∃ v, valV kvs (kyK k) = some v ∧ RepW K Z f v w | none => valV kvs (kyK k) = none) ∧ (valV kvs (kyK k)).isSome = decide (k ∈ ks) := by
  induction kvs with
  | nil =>
    intro ks ws k h1 h2
    cases ks with
    | nil => cases h2; simp [dget, valV]
    | cons _ _ => simp at h1
  | cons p kvs ih =>
    intro ks ws k h1 h2
    cases ks with
    | nil => simp at h1
    | cons a ks =>
      cases h2 with
      | cons hr hs =>
        rename_i w ws
        simp only [List.map_cons, List.cons.injEq] at h1
        obtain ⟨e1, e2⟩ := h1
        obtain ⟨i1, i2⟩ := ih k e2 hs
        by_cases hk : a = k
        · subst hk
          rw [valV_pos e1]
          simp only [dget, if_pos]
          exact ⟨⟨_, rfl, hr⟩, by simp⟩
        · have ne : ¬ p.1 = kyK k := fun e => hk (kyK_inj (e1.symm.trans e))
          rw [valV_neg ne]
          simp only [dget, if_neg hk]
          refine ⟨i1, ?_⟩
          rw [i2]
          simp [fun h => hk (Eq.symm h), List.mem_cons, show (k = a) = False from by simp; exact fun e => hk e.symm]
/-- a dict as it lies: its keys and values -/
def dctOf (M : Store) : W → Option (List Ky × List W)
  | .d (.dct ks vs) => some (ks, vs.map .d)
  | .r n => match M[n]? with
    | some (.dct ks ws) => some (ks, ws)
    | _ => none
  | _ => none
theorem dct_ok (rm : RelM K H Z f M) {v : V} {w : W} {ks : List Ky} {ws : List W} (r : RepW K Z f v w) (h : dctOf M w = some (ks, ws)) : ∃ a kvs, v = .ref a ∧ H a = some (.dK kvs) ∧ kvs.map (·.1) = ks.map kyK ∧ RepWs K Z f (kvs.map (·.2)) ws := by
  cases r with
  | d r =>
    cases r with
    | dct h1 h2 h3 =>
      simp only [dctOf] at h
      cases h
      exact ⟨_, _, rfl, rm.sub _ _ h1, h2, h3.ws⟩
    | _ => simp [dctOf] at h
  | r q =>
    rename_i n a
    simp only [dctOf] at h
    split at h
    · rename_i ks' us e
      cases h
      obtain ⟨kvs, h1, h2, h3⟩ := rm.cell _ _ _ e q
      exact ⟨a, kvs, rfl, h1, h2, h3⟩
    · cases h
theorem toDs_all {ws : List W} {ds : List D} (h : toDs ws = some ds) : ws = ds.map .d := by
  induction ws generalizing ds with
  | nil => simp [toDs] at h; subst h; rfl
  | cons w ws ih =>
    cases w with
    | d x =>
      simp only [toDs] at h
      cases e : toDs ws with
      | none => rw [e] at h; cases h
      | some xs => rw [e] at h; simp at h; subst h; rw [ih e]; rfl
    | r n => simp [toDs] at h
theorem lays_lst {v : V} {ds : List D} (e : Same Z H) {a : Addr} {vs : List V} (h : SqL K H a vs ∨ SqT K H a vs) (r : RepDs K Z vs ds) (l : D.lays ds = true) : Dp K H (.ref a) (.list (D.pys ds)) ∨ Dp K H (.ref a) (.tuple (D.pys ds)) := by
  rcases h with h | h
  · exact .inl (.lst h (r.dp e l))
  · exact .inr (.tup h (r.dp e l))
/-- x in a sequence of data -/
theorem in_seq (neg : Bool) (rm : RelM K H Z f M) {v1 v2 : V} {x : D} {a : Addr} {vs : List V} {ds : List D} {b : Bool} {Q : VK} (r1 : RepD K Z v1 x) (e2 : v2 = .ref a) (hs : SqL K H a vs ∨ SqT K H a vs) (r2 : RepDs K Z vs ds)
    (h : inD x ds = some b) (q : Q (.bl (if neg then !b else b)) H) : rIn K neg v1 v2 H Q ∨ rInP K neg v1 v2 H Q := by
  unfold inD at h
  split at h
  · rename_i c
    cases h
    subst e2
    by_cases fl : (x.flat && ds.all D.flat) = true
    · simp only [Bool.and_eq_true] at fl
      obtain ⟨f1, f2⟩ := r2.flats fl.2
      refine .inl ⟨a, vs, rfl, hs, (r1.flat fl.1).1, f1, ?_⟩
      rw [f2 r1 fl.1]
      exact q
    · simp only [Bool.not_eq_true] at fl
      rw [fl, Bool.false_or] at c
      simp only [Bool.and_eq_true, decide_eq_true_eq] at c
      obtain ⟨⟨c1, c2⟩, c3⟩ := c
      refine .inr ⟨x.py, D.pys ds, r1.dp rm.sub c1, lays_lst (v := .non) rm.sub hs r2 c2, pys_lay ds c2, py_lay x c1, by rw [py_dep x c1]; exact c3, ?_⟩
      rw [pys_any x c1 ds c2]
      exact q
  · cases h
def rInS (neg : Bool) : R2 := fun x y H Q => ∃ i j : PySem.Str, x = .str i ∧ y = .str j ∧ Q (.bl (if neg then !(!(Builtin.Str.occurrences j i 0 j.length 1).isEmpty) else !(Builtin.Str.occurrences j i 0 j.length 1).isEmpty)) H
theorem inOf_ok (neg : Bool) (rm : RelM K H Z f M) {v1 v2 : V} {x y : W} {b : Bool} {Q : VK} (r1 : RepW K Z f v1 x) (r2 : RepW K Z f v2 y) (h : inOf M x y = some b) (q : Q (.bl (if neg then !b else b)) H) :
    ((rIn K neg v1 v2 H Q ∨ rInP K neg v1 v2 H Q) ∨ rInK neg v1 v2 H Q) ∨ rInS neg v1 v2 H Q := by
  cases r1 with
  | r _ => simp [inOf] at h
  | d r1 =>
    rename_i x
    have viaD : ∀ {ks : List Ky} {ws : List W}, dctOf M y = some (ks, ws) → ((kyOf x).map fun k => decide (k ∈ ks)) = some b → rInK neg v1 v2 H Q := by
      intro ks ws hd hb
      obtain ⟨a, kvs, rfl, h1, h2, h3⟩ := dct_ok rm r2 hd
      cases e : kyOf x with
      | none => rw [e] at hb; cases hb
      | some k =>
        rw [e] at hb
        simp only [Option.map_some, Option.some.injEq] at hb
        have e1 := ky_rep r1 e
        subst e1
        refine ⟨a, _, rfl, DGet.k h1, ?_⟩
        rw [(kv_get k h2 h3).2, hb]
        exact q
    have viaS : ∀ {ds : List D}, seqOf M y = some (ds.map .d) → inD x ds = some b → rIn K neg v1 v2 H Q ∨ rInP K neg v1 v2 H Q := by
      intro ds hd hb
      obtain ⟨a, vs, e2, hs, hr⟩ := seq_ok rm r2 hd
      have hr' : RepDs K Z vs ds := hr.ds (by
        clear hd hb hr
        induction ds with
        | nil => rfl
        | cons d ds ih => simp [toDs, ih])
      exact in_seq neg rm r1 e2 hs hr' hb q
    cases y with
    | d y =>
      cases r2 with
      | d r2 =>
      cases r2 with
      | str t =>
        cases r1 with
        | str u =>
          simp only [inOf, Option.some.injEq] at h
          subst h
          exact .inr ⟨_, _, rfl, rfl, q⟩
        | _ => simp [inOf] at h
      | tup a1 a2 => exact .inl (.inl (viaS rfl (by cases x <;> exact h)))
      | lst a1 a2 => exact .inl (.inl (viaS rfl (by cases x <;> exact h)))
      | dct a1 a2 a3 => exact .inl (.inr (viaD rfl (by cases x <;> exact h)))
      | non => cases x <;> simp [inOf] at h
      | bl _ => cases x <;> simp [inOf] at h
      | int _ => cases x <;> simp [inOf] at h
      | scr _ _ => cases x <;> simp [inOf] at h
    | r n =>
      have h : (match M[n]? with
        | some (.dct ks _) => (kyOf x).map fun k => decide (k ∈ ks)
        | some (.lst ws) => (toDs ws).bind fun ds => inD x ds
        | _ => none) = some b := by cases x <;> exact h
      split at h
      · rename_i ks ws e
        exact .inl (.inr (viaD (ws := ws) (by simp only [dctOf, e]) h))
      · rename_i ws e
        cases e2 : toDs ws with
        | none => rw [e2] at h; cases h
        | some ds =>
          rw [e2] at h
          refine .inl (.inl (viaS ?_ h))
          simp only [seqOf, e]
          rw [toDs_all e2]
      · cases h
theorem eqD_ok (neg : Bool) (rm : RelM K H Z f M) {v1 v2 : V} {x y : D} {b : Bool} {Q : VK} (r1 : RepD K Z v1 x) (r2 : RepD K Z v2 y) (h : eqD x y = some b) (q : Q (.bl (if neg then !b else b)) H) :
    (if neg then rNeF v1 v2 H Q ∨ rNeP K v1 v2 H Q else rEqF v1 v2 H Q ∨ rEqP K v1 v2 H Q) := by
  unfold eqD at h
  split at h
  · rename_i c
    cases h
    by_cases fl : (x.flat && y.flat) = true
    · simp only [Bool.and_eq_true] at fl
      have e := (r1.flat fl.1).2 r2 fl.2
      have g1 := (r1.flat fl.1).1
      have g2 := (r2.flat fl.2).1
      cases neg with
      | true => exact .inl ⟨g1, g2, by rw [e]; exact q⟩
      | false => exact .inl ⟨g1, g2, by rw [e]; exact q⟩
    · simp only [Bool.not_eq_true] at fl
      rw [fl, Bool.false_or] at c
      simp only [Bool.and_eq_true, decide_eq_true_eq] at c
      obtain ⟨⟨c1, c2⟩, c3⟩ := c
      cases neg with
      | true => exact .inr ⟨x.py, y.py, r1.dp rm.sub c1, r2.dp rm.sub c2, py_lay x c1, py_lay y c2, by rw [py_dep x c1, py_dep y c2]; exact c3, by rw [py_eqv x y c1 c2]; exact q⟩
      | false => exact .inr ⟨x.py, y.py, r1.dp rm.sub c1, r2.dp rm.sub c2, py_lay x c1, py_lay y c2, by rw [py_dep x c1, py_dep y c2]; exact c3, by rw [py_eqv x y c1 c2]; exact q⟩
  · cases h
theorem op_inS : OpR X (compareOp .In) (rInS false) := fun pins s σ H x y v u Q I a b h => op_in_str pins s σ H x y v u Q I a b h
theorem op_notInS : OpR X (compareOp .NotIn) (rInS true) := fun pins s σ H x y v u Q I a b h => op_notin_str pins s σ H x y v u Q I a b h
theorem cmp_ok (hu : X.A.units + 200 < cLine) (o : Cop) : ∃ r : R2, OpR X (compareOp (pyC o)) r ∧ ∀ {Z H : Hp} {f : List Addr} {M : Store} {x y : W} {b : Bool} {v1 v2 : V} {Q : VK}, RelM X.K H Z f M → RepW X.K Z f v1 x → RepW X.K Z f v2 y → cmpSem M o x y = some b → Q (.bl b) H → r v1 v2 H Q := by
  cases o with
  | eq =>
    refine ⟨_, op_eqF.or (op_eqP hu), fun {Z H f M x y b v1 v2 Q} rm r1 r2 h q => ?_⟩
    cases r1 with
    | r _ => simp [cmpSem] at h
    | d r1 => cases r2 with
      | r _ => simp [cmpSem] at h
      | d r2 => exact eqD_ok false rm r1 r2 h q
  | ne =>
    refine ⟨_, op_neF.or (op_neP hu), fun {Z H f M x y b v1 v2 Q} rm r1 r2 h q => ?_⟩
    cases r1 with
    | r _ => simp [cmpSem] at h
    | d r1 => cases r2 with
      | r _ => simp [cmpSem] at h
      | d r2 =>
        simp only [cmpSem] at h
        rename_i x y
        cases e : eqD x y with
        | none => rw [e] at h; cases h
        | some c =>
          rw [e] at h
          simp only [Option.map_some, Option.some.injEq] at h
          exact eqD_ok true rm r1 r2 e (by rw [if_pos rfl, h]; exact q)
  | lt =>
    refine ⟨_, op_lt.or op_lt_str, fun {Z H f M x y b v1 v2 Q} rm r1 r2 h q => ?_⟩
    cases r1 with
    | r _ => simp [cmpSem] at h
    | d r1 => cases r2 with
      | r _ => cases r1 <;> simp [cmpSem] at h
      | d r2 =>
        cases r1 <;> cases r2 <;> simp only [cmpSem, cmpI, cmpS] at h <;> try (cases h; done)
        · cases h; exact .inl ⟨_, _, rfl, rfl, q⟩
        · cases h; exact .inr ⟨_, _, rfl, rfl, by simpa using q⟩
  | le =>
    refine ⟨_, op_le.or op_le_str, fun {Z H f M x y b v1 v2 Q} rm r1 r2 h q => ?_⟩
    cases r1 with
    | r _ => simp [cmpSem] at h
    | d r1 => cases r2 with
      | r _ => cases r1 <;> simp [cmpSem] at h
      | d r2 =>
        cases r1 <;> cases r2 <;> simp only [cmpSem, cmpI, cmpS] at h <;> try (cases h; done)
        · cases h; exact .inl ⟨_, _, rfl, rfl, q⟩
        · cases h; exact .inr ⟨_, _, rfl, rfl, by simpa using q⟩
  | gt =>
    refine ⟨_, op_gt.or op_gt_str, fun {Z H f M x y b v1 v2 Q} rm r1 r2 h q => ?_⟩
    cases r1 with
    | r _ => simp [cmpSem] at h
    | d r1 => cases r2 with
      | r _ => cases r1 <;> simp [cmpSem] at h
      | d r2 =>
        cases r1 <;> cases r2 <;> simp only [cmpSem, cmpI, cmpS] at h <;> try (cases h; done)
        · cases h; exact .inl ⟨_, _, rfl, rfl, q⟩
        · cases h; exact .inr ⟨_, _, rfl, rfl, by simpa using q⟩
  | ge =>
    refine ⟨_, op_ge.or op_ge_str, fun {Z H f M x y b v1 v2 Q} rm r1 r2 h q => ?_⟩
    cases r1 with
    | r _ => simp [cmpSem] at h
    | d r1 => cases r2 with
      | r _ => cases r1 <;> simp [cmpSem] at h
      | d r2 =>
        cases r1 <;> cases r2 <;> simp only [cmpSem, cmpI, cmpS] at h <;> try (cases h; done)
        · cases h; exact .inl ⟨_, _, rfl, rfl, q⟩
        · cases h; exact .inr ⟨_, _, rfl, rfl, by simpa using q⟩
  | isIn =>
    refine ⟨_, ((op_in_seq.or (op_inP hu)).or (op_inK hu)).or op_inS, fun {Z H f M x y b v1 v2 Q} rm r1 r2 h q => ?_⟩
    simp only [cmpSem] at h
    exact inOf_ok false rm r1 r2 h q
  | notIn =>
    refine ⟨_, ((op_notIn_seq.or (op_notInP hu)).or (op_notInK hu)).or op_notInS, fun {Z H f M x y b v1 v2 Q} rm r1 r2 h q => ?_⟩
    simp only [cmpSem] at h
    cases e : inOf M x y with
    | none => rw [e] at h; cases h
    | some c =>
      rw [e] at h
      simp only [Option.map_some, Option.some.injEq] at h
      exact inOf_ok true rm r1 r2 e (by rw [if_pos rfl, h]; exact q)
  | is_ =>
    refine ⟨_, op_isN.or op_isBl, fun {Z H f M x y b v1 v2 Q} rm r1 r2 h q => ?_⟩
    cases r1 with
    | r _ => simp [cmpSem] at h
    | d r1 => cases r2 with
      | r _ => cases r1 <;> simp [cmpSem] at h
      | d r2 =>
        cases r1 <;> cases r2 <;> simp only [cmpSem, cmpI, cmpS] at h <;> try (cases h; done)
        all_goals cases h
        all_goals first
          | exact .inl ⟨rfl, by simpa using q⟩
          | exact .inr ⟨_, _, rfl, rfl, q⟩
  | isNot =>
    refine ⟨_, op_notN.or op_notBl, fun {Z H f M x y b v1 v2 Q} rm r1 r2 h q => ?_⟩
    cases r1 with
    | r _ => simp [cmpSem] at h
    | d r1 => cases r2 with
      | r _ => cases r1 <;> simp [cmpSem] at h
      | d r2 =>
        cases r1 <;> cases r2 <;> simp only [cmpSem, cmpI, cmpS] at h <;> try (cases h; done)
        all_goals cases h
        all_goals first
          | exact .inl ⟨rfl, by simpa using q⟩
          | exact .inr ⟨_, _, rfl, rfl, q⟩
end
end TN

/-! TNf: rules of my own over the library's: a tuple backwards, sorted of a tuple. -/
namespace TN
open PySem PySem.Spec PyProof.Rows L2 HT
section
variable {prog : Program} {w : World} {A : Around} {E : Value → Shared → Prop} {s : Shared}
theorem adjust_rev (n : Nat) : Builtin.Slice.sliceAdjust none none (-1) (n : Int) = ((n : Int) - 1, -1) := by
  unfold Builtin.Slice.sliceAdjust
  simp
theorem places_rev (n : Nat) : Builtin.Slice.slicePlaces ((n : Int) - 1) (-1) (-1) = n := by
  unfold Builtin.Slice.slicePlaces
  have h1 : ¬ ((-1 : Int) > 0) := by decide
  by_cases h : (n : Int) - 1 > -1
  · have e : ((n : Int) - 1 - -1 - 1) / (- -1) + 1 = (n : Int) := by
      rw [show (- -1 : Int) = 1 by decide, Int.ediv_one]
      omega
    simp only [h1, if_false, h, if_true, e, Int.toNat_natCast]
  · have e : n = 0 := by omega
    subst e
    simp
theorem sliceApplied_rev {sl : Addr} {vk : Value} {n : Nat} {Q : Int × Int × Nat → Shared → Prop} (hs : s.heap.IsSliceOf sl .none .none vk) (pk : IsPart vk (some (-1)))
    (h : Q ((n : Int) - 1, -1, n) s) : wpAny (model prog w) A (Builtin.Slice.sliceApplied (.ref sl) (pure (n : Int))) Q E s := by
  obtain ⟨os, hos, hcs, hds⟩ := id hs
  unfold Builtin.Slice.sliceApplied Builtin.Slice.sliceFields
  refine wpAny_bind (wpAny_bind (wpAny_field hos hds (x := .none) rfl (wpAny_bind (wpAny_field hos hds (x := .none) rfl (wpAny_bind (wpAny_field hos hds (x := vk) rfl (wpAny_pure ?_)))))))
  refine wpAny_bind (slicePart_ pk ?_)
  show wpAny _ _ (if ((-1 : Int) == 0) = true then _ else _) _ _ s
  rw [if_neg (by decide)]
  refine wpAny_bind (slicePart_none (wpAny_bind (slicePart_none (wpAny_bind (wpAny_pure ?_)))))
  show wpAny _ _ (match Builtin.Slice.sliceAdjust none none (-1) (n : Int) with | (lo, hi) => pure (lo, (-1 : Int), Builtin.Slice.slicePlaces lo hi (-1))) _ _ s
  rw [adjust_rev n]
  show wpAny _ _ (pure (((n : Int) - 1), (-1 : Int), Builtin.Slice.slicePlaces ((n : Int) - 1) (-1) (-1))) _ _ s
  rw [places_rev]
  exact wpAny_pure h
theorem pick_rev (xs : Array Value) : ((List.range xs.size).filterMap fun (k : Nat) => xs[(((xs.size : Int) - 1) + (k : Int) * -1).toNat]?).toArray = xs.toList.reverse.toArray := by
  have e : ((List.range xs.size).filterMap fun (k : Nat) => xs[(((xs.size : Int) - 1) + (k : Int) * -1).toNat]?) = (List.range xs.size).filterMap fun k => xs[xs.size - 1 - k]? := by
    have : ∀ l : List Nat, (∀ k ∈ l, k < xs.size) → l.filterMap (fun (k : Nat) => xs[(((xs.size : Int) - 1) + (k : Int) * -1).toNat]?) = l.filterMap fun k => xs[xs.size - 1 - k]? := by
      intro l
      induction l with
      | nil => intro _; rfl
      | cons a l ih =>
        intro hl
        have ha := hl a (List.mem_cons_self ..)
        rw [List.filterMap_cons, List.filterMap_cons, ih fun k hk => hl k (List.mem_cons_of_mem _ hk)]
        have : (((xs.size : Int) - 1) + (a : Int) * -1).toNat = xs.size - 1 - a := by omega
        rw [this]
    exact this _ fun k hk => List.mem_range.mp hk
  rw [e]
  have h2 : (List.range xs.size).filterMap (fun k => xs[xs.size - 1 - k]?) = ((List.range xs.size).map fun k => xs.size - 1 - k).filterMap (xs[·]?) := by
    rw [List.filterMap_map]; rfl
  rw [h2, PySem.W.krv_range, List.filterMap_reverse, PySem.W.krv_all]
theorem getItem_tuple_rev {t sl : Addr} {items : Array Value} {vk : Value} {Q : Value → Shared → Prop} (ht : IsTup s.heap t items) (hs : s.heap.IsSliceOf sl .none .none vk) (pk : IsPart vk (some (-1)))
    (h : Q (.ref s.heap.objs.size) { s with heap := s.heap.push { cls := .type "tuple", data := .seq items.toList.reverse.toArray } })
    (hsz : items.size ≤ sizeLine) : wpAny (model prog w) A (getItem (.ref t) (.ref sl)) Q E s := by
  obtain ⟨os, hos, hcs, hds⟩ := id hs
  have hTs : s.TypeIs (.ref sl) "slice" := ⟨os, hos, hcs⟩
  unfold getItem
  try with_reducible refine wpAny_holding ?_
  first | refine wpAny_bind (wpAny_pure ?_) | skip
  refine wpAny_bind (wpAny_sequenceKey ht.typeIs (by decide) ?_)
  refine wpAny_bind (wpAny_callSpecial?_slot (name := Str.ofString "__getitem__") ht.typeIs PyProof.Rows.slot_tuple_getitem
    (wpAny_call_entry PyProof.Rows.slot_tuple_getitem ht.typeIs entry_tuple_getitem ?_ (args_tuple_getitem _ _)))
  show wpAny _ _ (Builtin.Tuple.tupleItemsOf (.ref t) >>= _) _ _ s
  refine wpAny_bind (tupleItemsOf_ ht ?_)
  refine wpAny_bind (wpAny_typeOf hTs ?_)
  rw [if_pos (by decide)]
  refine wpAny_bind (sliceApplied_rev hs pk ?_)
  show wpAny _ _ (if (((items.size : Int) - 1) == 0 && (-1 : Int) == 1 && items.size == items.size) = true then _ else _) _ _ s
  rw [if_neg (by rw [show ((-1 : Int) == 1) = false from rfl, Bool.and_false, Bool.false_and]; exact Bool.false_ne_true), pick_rev]
  have htake : sizeOk (.seq items.toList.reverse.toArray) := by
    show items.toList.reverse.toArray.size ≤ sizeLine
    rw [List.size_toArray, List.length_reverse, Array.length_toList]
    exact hsz
  first
    | exact wpAny_bind (m := Builtin.Tuple.tupleExact _) (wpAny_newObj_type (wpAny_pure ⟨_, rfl, wpAny_pure h⟩) htake)
    | exact wpAny_bind (m := Builtin.Tuple.tupleExact _) (wpAny_newObj_type (wpAny_bind (wpAny_pure (wpAny_pure ⟨_, rfl, wpAny_pure h⟩))) htake)
    | exact wpAny_bind (wpAny_bind (m := Builtin.Tuple.tupleExact _) (wpAny_newObj_type (wpAny_pure (wpAny_pure ⟨_, rfl, wpAny_pure h⟩)) htake))
    | exact wpAny_bind (wpAny_bind (m := Builtin.Tuple.tupleExact _) (wpAny_newObj_type (wpAny_pure ⟨_, rfl, wpAny_pure h⟩) htake))
/-- collect of a tuple -/
theorem collect_tup {l : Addr} {vs : List Value} {Q : List Value → Shared → Prop} (hl : IsTup s.heap l vs.toArray)
    (h : Q vs { s with heap := (s.heap.push (seqObj "list" #[] 0)).update s.heap.objs.size (Obj.mapSeq (· ++ vs.toArray)) }) (hsz : vs.length ≤ sizeLine) :
    wpAny (model prog w) A (collect (.ref l)) Q E s := by
  obtain ⟨o, ho, hc, n, hd⟩ := id hl
  unfold collect
  refine wpAny_bind (wpAny_runValue (codeAny_builtin entry_proto_collect' ?_))
  show wpAny _ _ (do again (.builtin "list.__iadd__" ⟨[← newList [], .ref l], []⟩)) _ _ s
  refine wpAny_bind (wpAny_newList (wpAny_pure ⟨Code.quiet_builtin _ (by decide +kernel), codeAny_builtin entry_list_iadd' ?_⟩))
  show wpAny _ _ (Builtin.List.listExtendWith (.ref s.heap.objs.size) (.ref l) (.ref s.heap.objs.size)) _ _ { s with heap := s.heap.push (seqObj "list" #[] 0) }
  unfold Builtin.List.listExtendWith
  have ho' : (s.heap.push (seqObj "list" #[] 0)).get? l = some o := Heap.get?_push_of_some _ ho
  refine wpAny_bind (wpAny_typeOf (T := "tuple") ⟨o, ho', hc⟩ ?_)
  have ht : (Value.type "tuple" == Value.type "tuple") = true := by rfl
  rw [if_pos (by rw [ht]; simp)]
  refine wpAny_bind (listItems_at ho' hd ?_)
  refine wpAny_bind (listItems_at (xs := #[]) (n := 0) (Heap.get?_push_size _ rfl) rfl ?_)
  rw [if_neg (by simp)]
  refine wpAny_bind (listUpdate_at (xs := #[]) (n := 0) (Heap.get?_push_size _ rfl) rfl ?_ (Nat.zero_le _) (by show (#[] ++ vs.toArray).size ≤ sizeLine + 1; simp only [Array.size_append, List.size_toArray, List.length_nil]; omega))
  refine wpAny_pure ?_
  show wpAny (model prog w) A (do
      let o ← load s.heap.objs.size
      match o.data with
      | .seq xs _ => pure xs.toList
      | _ => unsupported "internal:collect") Q E { s with heap := (s.heap.push (seqObj "list" #[] 0)).update s.heap.objs.size (Obj.mapSeq (· ++ vs.toArray)) }
  refine wpAny_bind (wpAny_load (get?_update_seq (Heap.get?_push_size _ rfl) _) ?_)
  show wpAny _ _ (pure ((#[] : Array Value) ++ vs.toArray).toList) Q E _
  rw [show ((#[] : Array Value) ++ vs.toArray).toList = vs by simp]
  exact wpAny_pure h
theorem sortedK_tup {κ : PyProof.Rows.KeyKind} (hO : κ.OneLt) {l : Addr} {vs : List Value} {Q : Value → Shared → Prop} (hl : IsTup s.heap l vs.toArray) (h0 : KeysOf κ (pairsOf vs)) (hkk : ∀ v₁ v₂ rest, vs = v₁ :: v₂ :: rest → keyKind' (v₁ :: v₂ :: rest).toArray = pure oneType') (h64 : vs.length < 64)
    (h : ∀ st' : SortSt, (arrOf st').Perm (pairsOf vs) → SortedToK κ (arrOf st') (pairsOf vs).size → Q (.ref (s.heap.objs.size + 1)) { s with heap := sortedAll s.heap vs ((arrOf st').map (·.2)) }) :
    wpAny (model prog w) A (call (.builtin "sorted") [.ref l]) Q E s := by
  refine Calls.call_function_entry kind_sorted plain_sorted entry_sorted (args_sorted1 _) ?_
  unfold Builtin.«sorted»
  refine wpAny_bind (m := checkCount "sorted" 1 1 _) (wpAny_pure ?_)
  refine wpAny_bind (collect_tup hl ?_ (small64 h64))
  refine wpAny_bind (wpAny_newList ?_ (small64 h64))
  have hsz : ((s.heap.push (seqObj "list" #[] 0)).update s.heap.objs.size (Obj.mapSeq (· ++ vs.toArray))).objs.size = s.heap.objs.size + 1 := by
    rw [Heap.size_update, size_push']
  have hoL : (((s.heap.push (seqObj "list" #[] 0)).update s.heap.objs.size (Obj.mapSeq (· ++ vs.toArray))).push (seqObj "list" vs.toArray 0)).get? (s.heap.objs.size + 1) = some (seqObj "list" vs.toArray 0) := by
    rw [← hsz]; exact Heap.get?_push_size _ rfl
  show wpAny _ _ _ _ _ { s with heap := ((s.heap.push (seqObj "list" #[] 0)).update s.heap.objs.size (Obj.mapSeq (· ++ vs.toArray))).push (seqObj "list" vs.toArray 0) }
  rw [hsz]
  refine wpAny_bind (wpAny_holding (wpAny_call_entry slot_list_sort ⟨_, hoL, rfl⟩ entry_list_sort (list_sort_treeK hO hoL h0 hkk h64 fun st' a1 a2 => ⟨_, rfl, ?_⟩) (args_list_sort _)))
  exact wpAny_pure ⟨_, rfl, h st' a1 a2⟩
theorem sorted_strs_tup {l : Addr} {vs : List Value} {ss : List Str} {Q : Value → Shared → Prop} (hl : IsTup s.heap l vs.toArray) (hS : StrsAre vs ss) (h64 : vs.length < 64)
    (h : ∀ (out : Array Value) (ss' : List Str), StrsAre out.toList ss' → ss'.Perm ss → sortedS ss' = true → Q (.ref (s.heap.objs.size + 1)) { s with heap := sortedAll s.heap vs out }) :
    wpAny (model prog w) A (call (.builtin "sorted") [.ref l]) Q E s := by
  refine sortedK_tup strKind_oneLt hl hS.keysOf (fun v₁ v₂ rest e => keyKind_strs (by rw [← e]; exact hS)) h64 fun st' hp hs => ?_
  obtain ⟨ss', h1, h2, h3⟩ := sorted_out_str hS hp hs
  exact h _ ss' h1 h2 h3
end
section
variable {X : Cx}
def rSortedT (K : PySem.W.Frag) : List V → Hp → VK → Prop := fun vs H Q => ∃ (a : Addr) (xs : List Str), vs = [V.ref a] ∧ SqT K H a (xs.map V.str) ∧ xs.length < 64 ∧
  ∀ (ys : List Str) (p : Addr), ys.Perm xs → sortedS ys = true → H p = none → Q (.ref p) (upd H p (.lst (ys.map V.str)))
theorem cr_sortedT : CallR X (.builtin "sorted") (rSortedT X.K) := by
  intro pins s σ H vs us Q I r h
  obtain ⟨a, xs, rfl, hs, h64, q⟩ := h
  obtain ⟨its, rv, hl, _⟩ := I.tuple hs
  rw [Vals.ref1 r]
  have hlen0 := rv.length
  rw [List.length_map] at hlen0
  refine sorted_strs_tup hl rv.strs (by rw [← hlen0]; exact h64) fun out ys h1 h2 h3 => ?_
  obtain ⟨ep, he'⟩ := PyProof.Rows.sortedAll_at s.heap its out
  have hlen : (ys.map V.str).length ≤ sizeLine := by rw [List.length_map, h2.length_eq]; exact small64 h64
  exact ⟨.ref _, upd H (s.heap.objs.size + 1) (.lst (ys.map V.str)), I.laid (t' := s.toks) (fun _ _ => PyProof.Rows.sortedAll_old) (Nat.le_succ _) ⟨hlen, out.toList, ep, vals_of_strs h1, he'⟩, rfl, q ys _ h2 h3 (I.hok.fresh (Nat.le_succ _))⟩
def tRevT (K : PySem.W.Frag) (te : TE) : TE := fun σ H Q => te σ H fun x H1 => ∃ a xs, x = .ref a ∧ SqT K H1 a xs ∧ ∀ p, H1 p = none → Q (.ref p) (upd H1 p (.tup xs.reverse))
theorem pe_revT {e : Expr} {te : TE} {k : Nat} {p1 p2 p3 pos : Pos} (he : PE X e te) : PE X (.Subscript e (.Slice none none (some (.UnaryOp .USub (.Constant (.int 1) k p1) p2)) p3) pos) (tRevT X.K te) := by
  refine ⟨fun pins s σ H Q I h => ?_⟩
  refine Subscript_ (thn (he.run pins s σ H _ I h) fun v s1 ⟨x, H1, I1, r1, q1⟩ => ?_)
  obtain ⟨a, xs, ex, hx, q⟩ := q1
  subst ex
  cases r1
  have hst : PO X (some (.UnaryOp .USub (.Constant (.int 1) k p1) p2)) (tPart (tUn (rU fun i => .int (-i)) (tC (.int 1)))) := po_some (pe_un un_neg pe_int)
  refine wpAny_Slice (thn (po_none.run pins s1 σ H1 (fun o H2 => o = none ∧ H2 = H1) I1 ⟨rfl, rfl⟩) fun vl s2 ⟨l, H2, I2, pl, el, e2⟩ => ?_)
  subst el e2
  cases pl
  refine thn (po_none.run pins s2 σ H2 (fun o H3 => o = none ∧ H3 = H2) I2 ⟨rfl, rfl⟩) fun vu s3 ⟨u, H3, I3, pu, eu, e3⟩ => ?_
  subst eu e3
  cases pu
  refine thn (hst.run pins s3 σ H3 (fun o H4 => o = some (-1) ∧ H4 = H3) I3 ⟨1, rfl, -1, rfl, rfl, rfl⟩) fun vs s4 ⟨o, H4, I4, ps, eo, e4⟩ => ?_
  subst eo e4
  have I5 : Inv X pins σ H4 { s4 with heap := s4.heap.push { cls := .type "slice", data := .fields #[.none, .none, vs] } } := I4.kept (t' := s4.toks) fun b ob q => Heap.get?_push_of_some _ q
  obtain ⟨its, r, ht, hz⟩ := I5.tuple hx
  have hlen := r.length
  show wpAny (model X.prog X.w) X.A (subscriptTail e (.Slice none none (some (.UnaryOp .USub (.Constant (.int 1) k p1) p2)) p3) (.ref a) (.ref s4.heap.objs.size)) (EP X pins σ Q) X.xe { s4 with heap := s4.heap.push { cls := .type "slice", data := .fields #[.none, .none, vs] } }
  refine tail_any (ops := [.ref a, .ref s4.heap.objs.size]) ht.typeIs (PyProof.Rows.slot_tuple_getitem.lookup) ?_ (by with_unfolding_all rfl)
  refine getItem_tuple_rev ht (Heap.IsSliceOf.new _ .none .none vs) ps ?_ (by rw [List.size_toArray]; omega)
  refine ⟨.ref _, _, I5.laid (t' := s4.toks) (o := .tup xs.reverse) (fun b ob q => Heap.get?_push_of_some _ q) (Nat.le_refl _) ?_, rfl, q _ (I5.hok.fresh (Nat.le_refl _))⟩
  exact ⟨by rw [List.length_reverse]; exact hz, _, r.reverse, ⟨_, Heap.get?_push_size _ rfl, rfl, _, rfl⟩⟩
end
end TN

namespace TN
open PySem PySem.Spec PyProof.Rows L2
open Sem (wp)
open AutoSeq1 (wpAny_loadPart')
theorem en_tup (a : Addr) (ob : Obj) (its : Array Value) (n : Nat) (hc : ob.cls = .type "tuple") (hd : ob.data = .seq its n) :
    Meets (Builtin.«enumerate.__new__» ⟨[.type "enumerate", .ref a], []⟩) (fun _ R s => s.heap.get? a = some ob ∧
      R (.ok (.ret (.ref (s.heap.push { cls := .type "tuple_iterator", data := .fields #[.ref a, .int 0 0] }).objs.size)))
        { s with heap := (s.heap.push { cls := .type "tuple_iterator", data := .fields #[.ref a, .int 0 0] }).push { cls := .type "enumerate", data := .fields #[.none, .bool false, .ref s.heap.objs.size, rawInt 0, .none, .none] } }) :=
  .of_wp fun prog w A R s h => by
    obtain ⟨hp, g, d, tk, os⟩ := s
    obtain ⟨hl, h⟩ := h
    have hsub := sub_enumerate
    have hT : Heap.IsTuple (Shared.heap ⟨hp, g, d, tk, os⟩) a its := ⟨_, hl, hc, n, hd⟩
    obtain ⟨oc, od, dt, sl⟩ := ob
    simp only at hc hd
    subst hc hd
    wp_walk using wpAny_loadPart' hl
    refine wpAny_stack_any fun st => wpAny_pure ?_
    split
    · rename_i c _ _ _ _ _
      cases (c == Value.type "enumerate") <;> (wp_walk using wpAny_loadPart' hl, wpAny_pyIter_tuple hT; exact ⟨_, rfl, h⟩)
    · wp_walk using wpAny_loadPart' hl, wpAny_pyIter_tuple hT
      exact ⟨_, rfl, h⟩
section
variable {prog : Program} {w : World} {A : Around} {E : Value → Shared → Prop} {s : Shared}
theorem en_call {a : Addr} {its : Array Value} {Q : Value → Shared → Prop} (hT : s.heap.IsTuple a its)
    (h : ∀ h', IsEnum h' (s.heap.objs.size + 1) s.heap.objs.size 0 .none → h'.IsTupleIter s.heap.objs.size a 0 → (∀ b o, s.heap.get? b = some o → h'.get? b = some o) → Q (.ref (s.heap.objs.size + 1)) { s with heap := h' }) :
    wpAny (model prog w) A (call (.type "enumerate") [.ref a]) Q E s := by
  obtain ⟨ob, ha, hc, n, hd⟩ := hT
  refine callType_new F.called_enumerate (by decide) (F.typeCall_enumerate_1 _) (F.newCall_enumerate_1 _) (fun obj => F.args_object_init_2 obj _) F.entry_enumerate_new (en_tup a ob its n hc hd) ⟨ha, ?_⟩
  have z : (s.heap.push { cls := .type "tuple_iterator", data := .fields #[.ref a, .int 0 0] }).objs.size = s.heap.objs.size + 1 := Heap.size_push ..
  show _ ∧ _
  rw [z]
  have g := Heap.get?_push_size (s.heap.push { cls := .type "tuple_iterator", data := .fields #[.ref a, .int 0 0] }) (o := { cls := .type "enumerate", data := .fields #[.none, .bool false, .ref s.heap.objs.size, rawInt 0, .none, .none] }) rfl
  rw [z] at g
  exact ⟨⟨_, g, rfl⟩, h _ g ⟨_, Heap.get?_push_of_some _ (Heap.get?_push_size _ rfl), rfl, rfl⟩ fun b o x => Heap.get?_push_of_some _ (Heap.get?_push_of_some _ x)⟩
theorem drawsT (hh : A.handled = none) (it l : Addr) (hne : l ≠ it) (its : Array Value) : Draws prog w A it [it, l] its.size (fun i v => its[i]? = some v) (fun i h => h.IsTupleIter it l i ∧ h.IsTuple l its) where
  live := fun _ _ st => let ⟨o, ho, _⟩ := st.1; ⟨o, ho⟩
  frame := fun _ _ _ st hk => ⟨st.1.at fun o e => hk it (by simp) o e, let ⟨o, ho, r⟩ := st.2; ⟨o, hk l (by simp) o ho, r⟩⟩
  item := fun i s Q E hi st hQ => by
    refine RZ.nextOf_tuple_item st.1 st.2 (x := its[i]) (by simp [hi]) fun h' hit' hs' => ?_
    exact hQ _ h' s.toks (by simp [hi]) ⟨hit', st.2.extBut hs'.extBut hne⟩ hs'
  done := fun s Q E st hE => RZ.nextOf_tuple_end hh st.1 st.2 (by simp) hE
end
/-- the tuple at a as it stands at each turn, each item in a new pair -/
def IteT (K : PySem.W.Frag) (a : Addr) : It :=
  ⟨fun i H => ∃ xs x, SqT K H a xs ∧ xs[i]? = some x, fun i H v H' => ∃ T x, v = .ref T ∧ H T = none ∧ H' = upd H T (.tup [.int (i : Nat), x]) ∧ ∀ xs, SqT K H a xs → xs[i]? = some x, fun i H => ∃ xs, SqT K H a xs ∧ xs.length = i⟩
theorem tup_apart {h : Heap} {a it : Addr} {its : Array Value} {i : Nat} (h1 : h.IsTuple a its) (h2 : h.IsTupleIter it a i) : a ≠ it := by
  rintro rfl
  obtain ⟨o, e, c, _⟩ := h1
  obtain ⟨o', e', c', _⟩ := h2
  rw [e] at e'; cases e'
  rw [c] at c'
  injection c' with z
  exact absurd z (by decide)
theorem turn_enT {P : Program} {w : World} {K : PySem.W.Frag} {elts : List Expr} {kk : Nat} {tpos : Pos} (a e it : Addr) :
    Turn P w K (.Tuple elts kk tpos) (IteT K a) [e, it] e (fun i h => (∃ old, IsEnum h e it ((i : Nat) : Int) old) ∧ h.IsTupleIter it a i ∧ e ≠ it) where
  mem := by simp
  obj := fun i h st b hb => by
    obtain ⟨⟨old, he⟩, ⟨o, ho, hc, hd⟩, _⟩ := st
    rcases (show b = e ∨ b = it by simpa using hb) with rfl | rfl
    · exact ⟨_, he, fun v q => nomatch q⟩
    · exact ⟨o, ho, fun v q => by rw [hd] at q; cases q⟩
  keep := fun i h h' st k => let ⟨⟨old, he⟩, hi, hne⟩ := st; ⟨⟨old, k e (by simp) _ he⟩, hi.at fun o q => k it (by simp) o q, hne⟩
  item := by
    intro X hP hw hK hc i pins s σ H E I hf st hg
    subst hP hw hK
    obtain ⟨⟨old, he⟩, hit, hne⟩ := st
    obtain ⟨xs, x, hq, hx⟩ := hg
    obtain ⟨its, rv, p, hz⟩ := I.tuple hq
    have p : s.heap.IsTuple a its.toArray := p
    obtain ⟨u, hu, ru⟩ := rv.get hx
    have hel : e < s.heap.objs.size := Heap.lt_size he
    have hil : it < s.heap.objs.size := by obtain ⟨_, q, _⟩ := hit; exact Heap.lt_size q
    have ap := tup_apart p hit
    have hae : e ≠ a := by
      rintro rfl
      obtain ⟨o, e1, c1, _⟩ := p
      rw [he] at e1; cases e1
      injection c1 with z
      exact absurd z (by decide)
    have hlt : i < its.toArray.size := by
      have := (List.getElem?_eq_some_iff.mp hu).1
      simpa using this
    refine wpAny_pyNext_enum_itemD (drawsT (A := X.A.in1) (I.ok.hd hc) it a ap its.toArray) he ⟨hit, p⟩ hlt hne (by simp [hne, hae]) fun y h' tk hy ho hst' hT hsz hk => ?_
    have ey : y = u := by
      rw [List.getElem?_toArray, hu] at hy
      exact (Option.some.inj hy).symm
    subst ey
    refine ⟨_, rfl, wpAny_letOwnedTupleGo_enum (s := { s with heap := h', toks := tk + 1 }) ho fun h'' he' sb => ?_⟩
    have hT2 : h''.get? s.heap.objs.size = some { cls := .type "tuple", data := .seq #[.int i tk, y] } := (sb.2 _ (Nat.ne_of_gt hel)).trans hT
    have new : ObjOk X.prog X.w (upd H s.heap.objs.size (.tup [.int (i : Nat), x])) h'' s.heap.objs.size (.tup [.int (i : Nat), x]) :=
      ⟨by show 2 ≤ sizeLine; decide, [.int i tk, y], .cons ⟨_, rfl⟩ (.cons ru .nil), ⟨_, hT2, rfl, _, rfl⟩⟩
    have I1 : Inv X pins σ (upd H s.heap.objs.size (.tup [.int (i : Nat), x])) { s with heap := h'', toks := tk + 1 } :=
      I.turnedNew (ch := [e, it]) (fun b ob hb q => (sb.2 b (fun z => hb (by simp [z]))).trans (hk b ob (fun z => hb (by simp [z])) (fun z => hb (by simp [z])) q)) hf (Nat.le_refl _) new
    refine ⟨.ref s.heap.objs.size, _, I1, rfl, ⟨_, x, rfl, I.hok.fresh (Nat.le_refl _), rfl, fun ys hys => ?_⟩, ⟨⟨y, ?_⟩, hst'.1.at fun o q => (sb.2 it (Ne.symm hne)).trans q, hne⟩, fun b hb => ?_⟩
    · rw [I.tuple_inj hys hq]; exact hx
    · have e1 : ((i + 1 : Nat) : Int) = (i : Int) + 1 := by omega
      rw [e1]; exact he'
    · have hb' : b < s.heap.objs.size := by
        rcases (show b = e ∨ b = it by simpa using hb) with rfl | rfl
        · exact hel
        · exact hil
      rw [upd_ne (Nat.ne_of_lt hb')]
      exact (hf b hb).1
  done := by
    intro X hP hw hK hc i pins s σ H E I hf st hg
    subst hP hw hK
    obtain ⟨⟨old, he⟩, hit, hne⟩ := st
    obtain ⟨xs, hq, hx⟩ := hg
    obtain ⟨its, rv, p, hz⟩ := I.tuple hq
    have p : s.heap.IsTuple a its.toArray := p
    have ap := tup_apart p hit
    obtain ⟨f0, f1, f2, f3, f4, f5⟩ := hf it (by simp)
    have hl := rv.length
    have hi : i = its.toArray.size := by rw [List.size_toArray]; omega
    rw [hi] at hit he
    exact wpAny_pyNext_enum_endD (drawsT (A := X.A.in1) (I.ok.hd hc) it a ap its.toArray) he ⟨hit, p⟩ fun h' eb => ⟨rfl, I.turned (t' := s.toks) (fun b o hb q => eb b o hb q) f0 f1 f3 f4 f5⟩
  self := fun A i s Q E st h => let ⟨⟨_, he⟩, _⟩ := st; wpAny_pyIter_enum he h
def iEnumT (K : PySem.W.Frag) (ta : TA) : TI := fun σ H R => ta σ H fun vs H1 => ∃ a xs, vs = [.ref a] ∧ ((SqL K H1 a xs ∧ R (Ite K a) H1) ∨ (SqT K H1 a xs ∧ R (IteT K a) H1))
theorem pi_enumT {X : Cx} {e : Expr} {ta : TA} {p pos tpos : Pos} {elts : List Expr} {kk : Nat} (hg : Gl X ("enumerate" : PySem.Str)) (hm : X.mg ("enumerate" : PySem.Str) = none) (ha : PA X [e] ta) (hs : starEach [e] X.env = [(false, eval e X.env)]) :
    PI X (.Tuple elts kk tpos) (.Call (.Name ("enumerate" : PySem.Str) p) [e] [] pos) (iEnumT X.K ta) := by
  refine ⟨fun pins s σ H R I h => ?_⟩
  refine Call_ (ld_blt I hg hm boot_enumerate (PyProof.Rows.callWith_type1 (thn (ha.run pos pins s σ H _ I h) fun us s1 ⟨vs, H1, I1, r1, q1⟩ => ?_) hs rfl))
  obtain ⟨a, xs, rfl, q1⟩ := q1
  cases r1 with
  | cons r rr =>
    cases rr
    cases r
    have two : ∀ b, b ∈ [s1.heap.objs.size + 1, s1.heap.objs.size] → FpOk X pins H1 b := fun b hb => by
      have hle : s1.heap.objs.size ≤ b := by
        rcases (show b = s1.heap.objs.size + 1 ∨ b = s1.heap.objs.size by simpa using hb) with z | z <;> omega
      exact I1.fpOk hle (I1.hok.fresh hle)
    rcases q1 with ⟨hq, q⟩ | ⟨hq, q⟩
    · obtain ⟨its, rv, p', hz⟩ := I1.list hq
      refine call_enumerate_list p'.isList fun h' he hit hsz hk => wpAny_pyIter_enum he ?_
      have I2 : Inv X pins σ H1 { s1 with heap := h' } := I1.kept (t' := s1.toks) hk
      exact ⟨s1.heap.objs.size + 1, [s1.heap.objs.size + 1, s1.heap.objs.size], _, _, H1, rfl, I2, turn_enum a (s1.heap.objs.size + 1) s1.heap.objs.size, ⟨⟨.none, he⟩, hit, Nat.succ_ne_self _⟩, two, q⟩
    · obtain ⟨its, rv, p', hz⟩ := I1.tuple hq
      refine en_call (its := its.toArray) p' fun h' he hit hk => wpAny_pyIter_enum he ?_
      have I2 : Inv X pins σ H1 { s1 with heap := h' } := I1.kept (t' := s1.toks) hk
      exact ⟨s1.heap.objs.size + 1, [s1.heap.objs.size + 1, s1.heap.objs.size], _, _, H1, rfl, I2, turn_enT a (s1.heap.objs.size + 1) s1.heap.objs.size, ⟨⟨.none, he⟩, hit, Nat.succ_ne_self _⟩, two, q⟩
end TN

/-! TNg: subscripts, slices, built-ins, methods, stores, by values. -/
namespace TN
open PySem PySem.Spec PyProof.Rows L2
section
variable {X : Cx} {Z H : Hp} {f : List Addr} {M : Store} {K : PySem.W.Frag}
theorem ixN_eq (n : Nat) (i : Int) : TN.ixN n i = L2.ixN n i := rfl
theorem atI_rep {vs : List V} {ws : List W} (r : RepWs K Z f vs ws) {i : Int} {w : W} (h : TN.atI ws i = some w) : ∃ v, L2.atI vs i = some v ∧ RepW K Z f v w := by
  unfold TN.atI at h
  cases e : TN.ixN ws.length i with
  | none => rw [e] at h; cases h
  | some j =>
    rw [e] at h
    obtain ⟨v, h1, h2⟩ := r.get (i := j) h
    refine ⟨v, ?_, h2⟩
    unfold L2.atI
    rw [r.length, ← ixN_eq, e]
    exact h1
theorem atI_map {ds : List D} {i : Int} {x : D} (h : TN.atI ds i = some x) : TN.atI (ds.map W.d) i = some (.d x) := by
  unfold TN.atI at h ⊢
  rw [List.length_map]
  cases e : TN.ixN ds.length i with
  | none => rw [e] at h; cases h
  | some j =>
    rw [e] at h
    have h : ds[j]? = some x := h
    show (ds.map W.d)[j]? = _
    rw [List.getElem?_map, h]; rfl
/-- d[k] by values -/
def rIxD : R2 := fun x y H Q => ∃ a v, x = .ref a ∧ DGet H a y (some v) ∧ Q v H
theorem ix_dict (hu : X.A.units + 200 < cLine) : IxR X rIxD := by
  intro value slice pins s σ H x y v u Q I rx ry h hs
  obtain ⟨a, z, rfl, g, q⟩ := h
  cases rx
  exact tail_any (dict_typeIs I g) PySem.F.slot_dict_getitem.lookup (d_getItem (by omega) I g ry fun w' s3 I3 rw' => ⟨z, H, I3, rw', q⟩) hs
theorem idx_ok (hu : X.A.units + 200 < cLine) : ∃ r : R2, IxR X r ∧ ∀ {Z H : Hp} {f : List Addr} {M : Store} {x y w : W} {v1 v2 : V} {Q : VK}, RelM X.K H Z f M → RepW X.K Z f v1 x → RepW X.K Z f v2 y → idxSem M x y = some w → Ans X.K Z f H M w Q → r v1 v2 H Q := by
  refine ⟨_, ix_seq.or (ix_dict hu), fun {Z H f M x y w v1 v2 Q} rm r1 r2 h q => ?_⟩
  have seq : ∀ {ws : List W} {i : Int}, seqOf M x = some ws → y = .d (.int i) → TN.atI ws i = some w → rIx X.K v1 v2 H Q := by
    intro ws i hs ey ha
    subst ey
    cases r2 with
    | d r2 =>
      cases r2
      obtain ⟨a, vs, e, hh, hr⟩ := seq_ok rm r1 hs
      obtain ⟨v, g1, g2⟩ := atI_rep hr ha
      subst e
      rcases hh with hh | hh
      · exact .inl ⟨a, vs, i, v, rfl, rfl, hh, g1, q.here rm g2⟩
      · exact .inr (.inl ⟨a, vs, i, v, rfl, rfl, hh, g1, q.here rm g2⟩)
  have dct : ∀ {ks : List Ky} {ws : List W} {d : D} {k : Ky}, dctOf M x = some (ks, ws) → y = .d d → kyOf d = some k → dget k ks ws = some w → rIxD v1 v2 H Q := by
    intro ks ws d k hd ey hk hg
    subst ey
    cases r2 with
    | d r2 =>
      obtain ⟨a, kvs, e, h1, h2, h3⟩ := dct_ok rm r1 hd
      have g := (kv_get k h2 h3).1
      rw [hg] at g
      obtain ⟨v, g1, g2⟩ := g
      have e2 := ky_rep r2 hk
      subst e e2
      exact ⟨a, v, rfl, by rw [← g1]; exact DGet.k h1, q.here rm g2⟩
  cases x with
  | d x =>
    cases y with
    | r _ => cases x <;> simp [idxSem] at h
    | d y =>
      cases x with
      | tup xs =>
        cases y <;> simp only [idxSem] at h <;> try (cases h; done)
        rename_i i
        cases e : TN.atI xs i with
        | none => rw [e] at h; cases h
        | some z => rw [e] at h; cases h; exact .inl (seq rfl rfl (atI_map e))
      | lst xs =>
        cases y <;> simp only [idxSem] at h <;> try (cases h; done)
        rename_i i
        cases e : TN.atI xs i with
        | none => rw [e] at h; cases h
        | some z => rw [e] at h; cases h; exact .inl (seq rfl rfl (atI_map e))
      | scr xs =>
        cases y <;> simp only [idxSem] at h <;> try (cases h; done)
        rename_i i
        cases e : TN.atI xs i with
        | none => rw [e] at h; cases h
        | some z => rw [e] at h; cases h; exact .inl (seq rfl rfl (atI_map e))
      | str t =>
        cases y <;> simp only [idxSem] at h <;> try (cases h; done)
        rename_i i
        split at h
        · rename_i hl
          cases e : TN.atI t i with
          | none => rw [e] at h; cases h
          | some c =>
            rw [e] at h; cases h
            cases r1 with
            | d r1 =>
              cases r1
              cases r2 with
              | d r2 =>
                cases r2
                exact .inl (.inr (.inr ⟨_, _, c, rfl, rfl, by rw [toS_len, ← line_eq]; exact hl, e, q.here rm (.d (.str _))⟩))
        · cases h
      | dct ks vs =>
        simp only [idxSem] at h
        cases e : kyOf y with
        | none => rw [e] at h; cases h
        | some k =>
          rw [e] at h
          simp only [Option.bind_some] at h
          cases e2 : dget k ks vs with
          | none => rw [e2] at h; cases h
          | some z =>
            rw [e2] at h; cases h
            refine .inr (dct (ks := ks) (ws := vs.map .d) rfl rfl e ?_)
            clear q seq dct r1
            induction ks generalizing vs with
            | nil => simp [dget] at e2
            | cons a ks ih =>
              cases vs with
              | nil => simp [dget] at e2
              | cons b vs =>
                simp only [dget, List.map_cons] at e2 ⊢
                split
                · rename_i ha
                  rw [if_pos ha] at e2; cases e2; rfl
                · rename_i ha
                  rw [if_neg ha] at e2
                  exact ih vs e2
      | _ => cases y <;> simp [idxSem] at h
  | r n =>
    cases y with
    | r _ => simp [idxSem] at h
    | d y =>
      simp only [idxSem] at h
      split at h
      · rename_i ws e1
        split at h
        · exact .inl (seq (by simp only [seqOf, e1]) rfl h)
        · cases h
      · rename_i ks ws e1
        cases e : kyOf y with
        | none => rw [e] at h; cases h
        | some k => rw [e] at h; exact .inr (dct (by simp only [dctOf, e1]) rfl e h)
      · cases h
/-! ### slices -/
theorem cut_sub {α : Type} (xs : List α) (lo hi : Option Int) : TN.cut xs lo hi = (xs.drop (HT.sIx xs.length 0 lo)).take (HT.sIx xs.length xs.length hi - HT.sIx xs.length 0 lo) := rfl
theorem cut_repD {vs : List V} {ds : List D} (r : RepDs K Z vs ds) (lo hi : Option Int) : RepDs K Z (cutV vs lo hi) (TN.cut ds lo hi) := by
  rw [cut_sub, ← r.length]
  exact (r.drop _).take _
theorem cut_repW {vs : List V} {ws : List W} (r : RepWs K Z f vs ws) (lo hi : Option Int) : RepWs K Z f (cutV vs lo hi) (TN.cut ws lo hi) := by
  rw [cut_sub, ← r.length]
  exact (r.drop _).take _
theorem cut_all {α : Type} (xs : List α) (lo hi : Option Int) (h : HT.sIx xs.length 0 lo = 0 ∧ HT.sIx xs.length xs.length hi = xs.length) : TN.cut xs lo hi = xs := by
  rw [cut_sub, h.1, h.2]; simp
theorem sl_ok : ∃ r : V → Option Int → Option Int → Hp → VK → Prop, SlR X r ∧ ∀ {Z H : Hp} {f : List Addr} {M : Store} {x w : W} {lo hi : Option Int} {v : V} {Q : VK}, RelM X.K H Z f M → RepW X.K Z f v x → slSem x lo hi = some w → Ans X.K Z f H M w Q → r v lo hi H Q := by
  refine ⟨_, sl_tupA.or sl_str, fun {Z H f M x w lo hi v Q} rm r h q => ?_⟩
  cases r with
  | r _ => simp [slSem] at h
  | d r =>
    cases r <;> simp only [slSem] at h <;> try (cases h; done)
    · split at h
      · rename_i t hl
        cases h
        refine .inr ⟨_, rfl, by rw [toS_len, ← line_eq]; exact hl, ?_⟩
        have e : cutS (toS t) lo hi = toS (TN.cut t lo hi) := by
          unfold cutS
          rw [toS_len, cut_sub]
        rw [e]
        exact q.here rm (.d (.str _))
      · cases h
    · rename_i a vs ds t u
      cases h
      refine .inl ⟨a, vs, rfl, sqt_mono rm.sub t, fun hw => ?_, fun _ p hp => ?_⟩
      · rw [u.length] at hw
        rw [cut_all ds lo hi hw] at q
        exact q.here rm (.d (.tup t u))
      · have sz := same_upd (o := HO.tup (cutV vs lo hi)) (rm.zn hp)
        exact q.frz rm hp (.d (.tup upd_self_sqt ((cut_repD u lo hi).mono sz)))
theorem seq_cases (rm : RelM K H Z f M) {v : V} {w : W} {ws : List W} (r : RepW K Z f v w) (h : seqOf M w = some ws) : (∃ a vs, v = .ref a ∧ SqL K H a vs ∧ RepWs K Z f vs ws) ∨ ∃ ds, w = .d (.tup ds) := by
  cases r with
  | d r =>
    cases r with
    | tup h1 h2 => exact .inr ⟨_, rfl⟩
    | lst h1 h2 => simp only [seqOf] at h; cases h; exact .inl ⟨_, _, rfl, SqL.of (rm.sub _ _ h1), h2.ws⟩
    | scr h1 h2 => simp only [seqOf] at h; cases h; exact .inl ⟨_, _, rfl, rm.sub.seq h1, h2.ws⟩
    | _ => simp [seqOf] at h
  | r q =>
    simp only [seqOf] at h
    split at h
    · rename_i us e
      cases h
      obtain ⟨vs, h1, h2⟩ := rm.cell _ _ _ e q
      exact .inl ⟨_, vs, rfl, SqL.of h1, h2⟩
    · cases h
/-! ### built-ins -/
def biName : Bi → Str
  | .len => "len"
  | .tuple => "tuple"
  | .all => "all"
  | .any => "any"
  | .sum => "sum"
  | .int => "int"
  | .abs => "abs"
  | .str => "str"
  | .max2 => "max"
  | .min2 => "min"
  | .ord => "ord"
def biVal : Bi → Value
  | .len => .builtin "len"
  | .tuple => .type "tuple"
  | .all => .builtin "all"
  | .any => .builtin "any"
  | .sum => .builtin "sum"
  | .int => .type "int"
  | .abs => .builtin "abs"
  | .str => .type "str"
  | .max2 => .builtin "max"
  | .min2 => .builtin "min"
  | .ord => .builtin "ord"
theorem biBoot (b : Bi) : bootBuiltins (biName b) = some (biVal b) := by
  cases b <;> decide +kernel
theorem one_rep {vs : List V} {w : W} (r : RepWs K Z f vs [w]) : ∃ v, vs = [v] ∧ RepW K Z f v w := by
  cases r with
  | cons h t => cases t; exact ⟨_, rfl, h⟩
theorem two_rep {vs : List V} {w x : W} (r : RepWs K Z f vs [w, x]) : ∃ v u, vs = [v, u] ∧ RepW K Z f v w ∧ RepW K Z f u x := by
  cases r with
  | cons h t => cases t with
    | cons h' t => cases t; exact ⟨_, _, rfl, h, h'⟩
theorem bools_rep : ∀ {vs : List V} {ws : List W} {bs : List Bool}, RepWs K Z f vs ws → boolsOf ws = some bs → vs = bs.map V.bl
  | _, _, bs, .nil, h => by simp [boolsOf] at h; subst h; rfl
  | _, _, bs, .cons (w := w) (ws := ws) h t, e => by
    cases h with
    | r _ => simp [boolsOf] at e
    | d h =>
      cases h <;> simp only [boolsOf] at e <;> try (cases e; done)
      cases q : boolsOf ws with
      | none => rw [q] at e; cases e
      | some xs =>
        rw [q] at e
        simp only [Option.map_some, Option.some.injEq] at e
        subst e
        rw [List.map_cons, ← bools_rep t q]
theorem ints_rep : ∀ {vs : List V} {ws : List W} {bs : List Int}, RepWs K Z f vs ws → intsOf ws = some bs → vs = bs.map V.int
  | _, _, bs, .nil, h => by simp [intsOf] at h; subst h; rfl
  | _, _, bs, .cons (w := w) (ws := ws) h t, e => by
    cases h with
    | r _ => simp [intsOf] at e
    | d h =>
      cases h <;> simp only [intsOf] at e <;> try (cases e; done)
      cases q : intsOf ws with
      | none => rw [q] at e; cases e
      | some xs =>
        rw [q] at e
        simp only [Option.map_some, Option.some.injEq] at e
        subst e
        rw [List.map_cons, ← ints_rep t q]
theorem strs_rep : ∀ {vs : List V} {ws : List W} {bs : List Tx}, RepWs K Z f vs ws → strsOf ws = some bs → vs = (bs.map toS).map V.str
  | _, _, bs, .nil, h => by simp [strsOf] at h; subst h; rfl
  | _, _, bs, .cons (w := w) (ws := ws) h t, e => by
    cases h with
    | r _ => simp [strsOf] at e
    | d h =>
      cases h <;> simp only [strsOf] at e <;> try (cases e; done)
      cases q : strsOf ws with
      | none => rw [q] at e; cases e
      | some xs =>
        rw [q] at e
        simp only [Option.map_some, Option.some.injEq] at e
        subst e
        rw [List.map_cons, List.map_cons, ← strs_rep t q]
theorem strs_of : ∀ (bs : List Tx), RepWs K Z f ((bs.map toS).map V.str) (bs.map fun s => .d (.str s))
  | [] => .nil
  | b :: bs => .cons (.d (.str b)) (strs_of bs)
theorem len_sem (rm : RelM K H Z f M) {v : V} {w : W} {n : Nat} (r : RepW K Z f v w) (h : lenOf M w = some n) (hd : dctOf M w = none) : LenV K v H n := by
  cases r with
  | d r =>
    cases r with
    | str t =>
      simp only [lenOf] at h
      split at h
      · rename_i hl
        cases h
        exact ⟨by rw [toS_len, ← line_eq]; exact hl, (toS_len t).symm⟩
      · cases h
    | tup h1 h2 => simp only [lenOf] at h; cases h; exact .inr ⟨_, sqt_mono rm.sub h1, h2.length.symm⟩
    | lst h1 h2 => simp only [lenOf] at h; cases h; exact .inl ⟨_, SqL.of (rm.sub _ _ h1), h2.length.symm⟩
    | scr h1 h2 => simp only [lenOf] at h; cases h; exact .inl ⟨_, rm.sub.seq h1, h2.length.symm⟩
    | dct _ _ _ => simp [dctOf] at hd
    | _ => simp [lenOf] at h
  | r q =>
    rename_i n' a
    simp only [lenOf] at h
    split at h
    · rename_i us e
      cases h
      obtain ⟨vs, h1, h2⟩ := rm.cell _ _ _ e q
      exact .inl ⟨_, SqL.of h1, h2.length.symm⟩
    · rename_i ks us e
      simp [dctOf, e] at hd
    · cases h
def rLenD : List V → Hp → VK → Prop := fun xs H Q => ∃ a kvs, xs = [.ref a] ∧ H a = some (.dK kvs) ∧ Q (.int kvs.length) H
theorem call_lenK : CallR X (.builtin "len") rLenD := by
  intro pins s σ H xs us Q I r h
  obtain ⟨a, kvs, rfl, e, q⟩ := h
  obtain ⟨u, rfl, rx⟩ := vals1 r
  cases rx
  exact d_len I (.inl e) fun t s' I' => ⟨.int _, H, I', ⟨t, rfl⟩, q⟩
/-- the built-ins that are carried -/
def biOk : Bi → Bool
  | .str => false
  | .ord => false
  | _ => true
theorem bi_ok (hc : X.calm = true) (b : Bi) (hb : biOk b = true) : ∃ r : List V → Hp → VK → Prop, CallR X (biVal b) r ∧ ∀ {Z H : Hp} {f : List Addr} {M : Store} {ws : List W} {w : W} {vs : List V} {Q : VK}, RelM X.K H Z f M → RepWs X.K Z f vs ws → biSem M b ws = some w → Ans X.K Z f H M w Q → r vs H Q := by
  cases b with
  | len =>
    refine ⟨_, call_len.or call_lenK, fun {Z H f M ws w vs Q} rm r h q => ?_⟩
    match ws, h, r with
    | [x], h, r =>
      obtain ⟨v, rfl, r1⟩ := one_rep r
      simp only [biSem] at h
      cases e : lenOf M x with
      | none => rw [e] at h; cases h
      | some n =>
        rw [e] at h; cases h
        cases e2 : dctOf M x with
        | none => exact .inl ⟨v, n, rfl, len_sem rm r1 e e2, q.here rm (.d (.int _))⟩
        | some p =>
          obtain ⟨ks, us⟩ := p
          obtain ⟨a, kvs, rfl, h1, h2, h3⟩ := dct_ok rm r1 e2
          have : n = kvs.length := by
            rw [len_dct h2]
            cases x with
            | d x => cases x <;> simp [dctOf] at e2; simp [lenOf] at e; rw [← e, ← e2.1]
            | r k =>
              simp only [dctOf] at e2
              split at e2
              · rename_i e3; simp only [lenOf, e3] at e; cases e; cases e2; rfl
              · cases e2
          subst this
          exact .inr ⟨a, kvs, rfl, h1, q.here rm (.d (.int _))⟩
    | [], h, _ => simp [biSem] at h
    | _ :: _ :: _, h, _ => simp [biSem] at h
  | tuple =>
    refine ⟨_, call_tuple_of, fun {Z H f M ws w vs Q} rm r h q => ?_⟩
    match ws, h, r with
    | [x], h, r =>
      obtain ⟨v, rfl, r1⟩ := one_rep r
      simp only [biSem] at h
      cases e : seqOf M x with
      | none => rw [e] at h; cases h
      | some us =>
        rw [e] at h
        simp only [Option.bind_some] at h
        cases e2 : toDs us with
        | none => rw [e2] at h; cases h
        | some ds =>
          rw [e2] at h; cases h
          rcases seq_cases rm r1 e with ⟨a, ys, rfl, hs, hr⟩ | ⟨es, rfl⟩
          · refine ⟨a, ys, rfl, .inl ⟨hs, fun l hl => ?_⟩⟩
            have sz := same_upd (o := HO.tup ys) (rm.zn hl)
            exact q.frz rm hl (.d (.tup upd_self_sqt ((hr.ds e2).mono sz)))
          · cases r1 with
            | d r1 =>
              cases r1 with
              | tup h1 h2 =>
                simp only [seqOf] at e
                cases e
                have e3 := toDs_all e2
                have e3 : es = ds := (List.map_inj_right (f := W.d) (fun a b h => by cases h; rfl)).mp e3
                subst e3
                exact ⟨_, _, rfl, .inr ⟨sqt_mono rm.sub h1, q.here rm (.d (.tup h1 h2))⟩⟩
    | [], h, _ => simp [biSem] at h
    | _ :: _ :: _, h, _ => simp [biSem] at h
  | all =>
    refine ⟨_, cr_all hc, fun {Z H f M ws w vs Q} rm r h q => ?_⟩
    match ws, h, r with
    | [x], h, r =>
      obtain ⟨v, rfl, r1⟩ := one_rep r
      simp only [biSem] at h
      cases e : listOf M x with
      | none => rw [e] at h; cases h
      | some us =>
        rw [e] at h
        simp only [Option.bind_some] at h
        cases e2 : boolsOf us with
        | none => rw [e2] at h; cases h
        | some bs =>
          rw [e2] at h; cases h
          obtain ⟨a, ys, rfl, hs, hr⟩ := list_ok rm r1 e
          have := bools_rep hr e2
          subst this
          exact ⟨a, bs, rfl, SqL.of hs, q.here rm (.d (.bl _))⟩
    | [], h, _ => simp [biSem] at h
    | _ :: _ :: _, h, _ => simp [biSem] at h
  | any =>
    refine ⟨_, cr_any hc, fun {Z H f M ws w vs Q} rm r h q => ?_⟩
    match ws, h, r with
    | [x], h, r =>
      obtain ⟨v, rfl, r1⟩ := one_rep r
      simp only [biSem] at h
      cases e : listOf M x with
      | none => rw [e] at h; cases h
      | some us =>
        rw [e] at h
        simp only [Option.bind_some] at h
        cases e2 : boolsOf us with
        | none => rw [e2] at h; cases h
        | some bs =>
          rw [e2] at h; cases h
          obtain ⟨a, ys, rfl, hs, hr⟩ := list_ok rm r1 e
          have := bools_rep hr e2
          subst this
          exact ⟨a, bs, rfl, SqL.of hs, q.here rm (.d (.bl _))⟩
    | [], h, _ => simp [biSem] at h
    | _ :: _ :: _, h, _ => simp [biSem] at h
  | sum =>
    refine ⟨_, cr_sum hc, fun {Z H f M ws w vs Q} rm r h q => ?_⟩
    match ws, h, r with
    | [x], h, r =>
      obtain ⟨v, rfl, r1⟩ := one_rep r
      simp only [biSem] at h
      cases e : listOf M x with
      | none => rw [e] at h; cases h
      | some us =>
        rw [e] at h
        simp only [Option.bind_some] at h
        cases e2 : intsOf us with
        | none => rw [e2] at h; cases h
        | some bs =>
          rw [e2] at h; cases h
          obtain ⟨a, ys, rfl, hs, hr⟩ := list_ok rm r1 e
          have := ints_rep hr e2
          subst this
          exact ⟨a, bs, rfl, SqL.of hs, q.here rm (.d (.int _))⟩
    | [], h, _ => simp [biSem] at h
    | _ :: _ :: _, h, _ => simp [biSem] at h
  | int =>
    refine ⟨_, call_int1, fun {Z H f M ws w vs Q} rm r h q => ?_⟩
    match ws, h, r with
    | [.d (.int i)], h, r =>
      obtain ⟨v, rfl, r1⟩ := one_rep r
      simp only [biSem] at h; cases h
      cases r1 with
      | d r1 => cases r1; exact .inl ⟨_, rfl, q.here rm (.d (.int _))⟩
    | [.d (.bl i)], h, r =>
      obtain ⟨v, rfl, r1⟩ := one_rep r
      simp only [biSem] at h; cases h
      cases r1 with
      | d r1 => cases r1; exact .inr ⟨_, rfl, q.here rm (.d (.int _))⟩
    | [.d .non], h, _ => simp [biSem] at h
    | [.d (.str _)], h, _ => simp [biSem] at h
    | [.d (.tup _)], h, _ => simp [biSem] at h
    | [.d (.lst _)], h, _ => simp [biSem] at h
    | [.d (.scr _)], h, _ => simp [biSem] at h
    | [.d (.dct _ _)], h, _ => simp [biSem] at h
    | [.r _], h, _ => simp [biSem] at h
    | [], h, _ => simp [biSem] at h
    | _ :: _ :: _, h, _ => simp [biSem] at h
  | abs =>
    refine ⟨_, call_abs, fun {Z H f M ws w vs Q} rm r h q => ?_⟩
    match ws, h, r with
    | [.d (.int i)], h, r =>
      obtain ⟨v, rfl, r1⟩ := one_rep r
      simp only [biSem] at h; cases h
      cases r1 with
      | d r1 => cases r1; exact ⟨_, rfl, q.here rm (.d (.int _))⟩
    | [.d (.bl i)], h, _ => simp [biSem] at h
    | [.d .non], h, _ => simp [biSem] at h
    | [.d (.str _)], h, _ => simp [biSem] at h
    | [.d (.tup _)], h, _ => simp [biSem] at h
    | [.d (.lst _)], h, _ => simp [biSem] at h
    | [.d (.scr _)], h, _ => simp [biSem] at h
    | [.d (.dct _ _)], h, _ => simp [biSem] at h
    | [.r _], h, _ => simp [biSem] at h
    | [], h, _ => simp [biSem] at h
    | _ :: _ :: _, h, _ => simp [biSem] at h
  | max2 =>
    refine ⟨_, call_max2 hc, fun {Z H f M ws w vs Q} rm r h q => ?_⟩
    simp only [biSem] at h
    split at h <;> first | (cases h; done) | skip
    all_goals rename_i hq
    all_goals first
      | (cases hq; done)
      | skip
    cases h
    obtain ⟨v, u, rfl, r1, r2⟩ := two_rep r
    cases r1 with
    | d r1 => cases r1; cases r2 with
      | d r2 => cases r2; exact ⟨_, _, rfl, q.here rm (.d (.int _))⟩
  | min2 =>
    refine ⟨_, call_min2 hc, fun {Z H f M ws w vs Q} rm r h q => ?_⟩
    simp only [biSem] at h
    split at h <;> first | (cases h; done) | skip
    all_goals rename_i hq
    all_goals first
      | (cases hq; done)
      | skip
    cases h
    obtain ⟨v, u, rfl, r1, r2⟩ := two_rep r
    cases r1 with
    | d r1 => cases r1; cases r2 with
      | d r2 => cases r2; exact ⟨_, _, rfl, q.here rm (.d (.int _))⟩
  | str => cases hb
  | ord => cases hb
end
end TN

/-! TNh: what makes a new list; methods; stores; isinstance. -/
namespace TN
open PySem PySem.Spec PyProof.Rows L2
/-! ### sorted texts -/
theorem leTx_iff (a b : Tx) : leTx a b = true ↔ a ≤ b := by
  unfold leTx
  rw [Bool.not_eq_true', decide_eq_false_iff_not]
  exact Iff.rfl
theorem leTx_trans (a b c : Tx) (h : leTx a b = true) (k : leTx b c = true) : leTx a c = true := (leTx_iff a c).mpr (List.le_trans ((leTx_iff a b).mp h) ((leTx_iff b c).mp k))
theorem leTx_total (a b : Tx) : (leTx a b || leTx b a) = true := by
  rw [Bool.or_eq_true, leTx_iff, leTx_iff]
  exact List.le_total a b
theorem leTx_antisymm (a b : Tx) (h : leTx a b = true) (k : leTx b a = true) : a = b := List.le_antisymm ((leTx_iff a b).mp h) ((leTx_iff b a).mp k)
theorem insTx_perm (a : Tx) : ∀ xs : List Tx, (insTx a xs).Perm (a :: xs)
  | [] => .refl _
  | b :: xs => by
    unfold insTx
    split
    · exact .refl _
    · exact ((insTx_perm a xs).cons b).trans (.swap a b xs)
theorem sortTx_perm : ∀ xs : List Tx, (sortTx xs).Perm xs
  | [] => .refl _
  | a :: xs => (insTx_perm a _).trans ((sortTx_perm xs).cons a)
theorem insTx_pw (a : Tx) : ∀ xs : List Tx, (xs.Pairwise fun a b => leTx a b = true) → (insTx a xs).Pairwise fun a b => leTx a b = true
  | [], _ => by simp [insTx]
  | b :: xs, h => by
    unfold insTx
    have h2 := List.pairwise_cons.mp h
    split
    · rename_i hab
      refine List.pairwise_cons.mpr ⟨fun y hy => ?_, h⟩
      rcases List.mem_cons.mp hy with rfl | hy
      · exact hab
      · exact leTx_trans _ _ _ hab (h2.1 y hy)
    · rename_i hab
      refine List.pairwise_cons.mpr ⟨fun y hy => ?_, insTx_pw a xs h2.2⟩
      rcases List.mem_cons.mp ((insTx_perm a xs).mem_iff.mp hy) with rfl | hy
      · have := leTx_total y b
        rw [Bool.or_eq_true] at this
        exact this.resolve_left hab
      · exact h2.1 y hy
theorem sortTx_pw : ∀ xs : List Tx, (sortTx xs).Pairwise fun a b => leTx a b = true
  | [] => List.Pairwise.nil
  | a :: xs => insTx_pw a _ (sortTx_pw xs)
theorem rising_pw : ∀ (p : Str) (l : List Str), risingS p l = true → (p :: l).Pairwise fun a b => leTx a.cps.toList b.cps.toList = true
  | p, [], _ => by simp
  | p, x :: r, h => by
    have h1 : (!ltCps x.cps.toList p.cps.toList && risingS x r) = true := h
    rw [Bool.and_eq_true, ltCps_eq] at h1
    have ih := rising_pw x r h1.2
    have hpx : leTx p.cps.toList x.cps.toList = true := h1.1
    refine List.pairwise_cons.mpr ⟨fun y hy => ?_, ih⟩
    rcases List.mem_cons.mp hy with rfl | hy
    · exact hpx
    · exact leTx_trans _ _ _ hpx ((List.pairwise_cons.mp ih).1 y hy)
theorem sorted_pw : ∀ (l : List Str), sortedS l = true → l.Pairwise fun a b => leTx a.cps.toList b.cps.toList = true
  | [], _ => List.Pairwise.nil
  | x :: r, h => rising_pw x r h
theorem sorted_one {ys : List Str} {ss : List Tx} (hp : ys.Perm (ss.map toS)) (hs : sortedS ys = true) : ys = (sortTx ss).map toS := by
  have e0 : ys.map (fun y => y.cps.toList) = sortTx ss := by
    refine List.Perm.eq_of_pairwise (le := fun a b => leTx a b = true) (fun a b _ _ => leTx_antisymm a b) ?_ (sortTx_pw ss) ?_
    · exact List.pairwise_map.mpr (sorted_pw ys hs)
    · have h1 := hp.map (fun y : Str => y.cps.toList)
      have e : (ss.map toS).map (fun y : Str => y.cps.toList) = ss := by
        rw [List.map_map]
        conv => rhs; rw [← List.map_id ss]
        exact List.map_congr_left fun a _ => by simp
      rw [e] at h1
      exact h1.trans (sortTx_perm ss).symm
  rw [← e0, List.map_map]
  conv => lhs; rw [← List.map_id ys]
  exact List.map_congr_left fun a _ => by simp
section
variable {X : Cx} {Z H : Hp} {f : List Addr} {M : Store} {K : PySem.W.Frag}
/-- a new object that nobody tracks -/
theorem RelM.more (r : RelM K H Z f M) {p : Addr} (hp : H p = none) (o : HO) : RelM K (upd H p o) Z f M ∧ Stp Z f H Z f (upd H p o) := by
  have zn := r.zn hp
  have pn := r.nin hp
  refine ⟨⟨fun b u e => ?_, r.len, r.nd, fun n c a h1 h2 => (r.cell n c a h1 h2).upd hp (Same.refl _) (List.prefix_refl _), r.off, fun a ha => ?_⟩, ⟨Same.refl _, List.prefix_refl _, fun b u e _ => ?_, fun b e => ?_, fun b u e => .inl e, fun _ h => .inl h⟩⟩
  · rw [upd_ne (fun q => by subst q; rw [zn] at e; cases e)]; exact r.sub b u e
  · have ne : a ≠ p := fun e => pn (e ▸ ha)
    rw [upd_ne ne]; exact r.inH a ha
  · rw [upd_ne (ne_of_none e hp)]; exact e
  · by_cases hb : b = p
    · subst hb; exact hp
    · rw [upd_ne hb] at e; exact e
/-- a new list, with no name yet -/
def AnsL (K : PySem.W.Frag) (Z : Hp) (f : List Addr) (H : Hp) (M : Store) (ws : List W) (Q : VK) : Prop := ∀ a vs H' Z' f', Stp Z f H Z' f' H' → RelM K H' Z' f' M → H' a = some (.lst vs) → H a = none → Z' a = none → a ∉ f' → RepWs K Z' f' vs ws → Q (.ref a) H'
theorem AnsL.new {ws : List W} {Q : VK} (h : AnsL K Z f H M ws Q) (rm : RelM K H Z f M) {p : Addr} {vs : List V} (hp : H p = none) (r : RepWs K Z f vs ws) : Q (.ref p) (upd H p (.lst vs)) :=
  let ⟨a, b⟩ := rm.more hp (.lst vs)
  h p vs _ _ _ b a upd_same hp (rm.zn hp) (rm.nin hp) r
def lbName : Lb → Str
  | .list => "list"
  | .sorted => "sorted"
def lbVal : Lb → Value
  | .list => .type "list"
  | .sorted => .builtin "sorted"
theorem lbBoot (b : Lb) : bootBuiltins (lbName b) = some (lbVal b) := by cases b <;> decide +kernel
theorem keys_tx : ∀ {ks : List Ky} {ss : List Tx}, keysTx ks = some ss → ks = ss.map Ky.s
  | [], ss, h => by simp only [keysTx, Option.some.injEq] at h; subst h; rfl
  | .s x :: ks, ss, h => by
    simp only [keysTx] at h
    cases e : keysTx ks with
    | none => rw [e] at h; cases h
    | some r =>
      rw [e] at h
      simp only [Option.map_some, Option.some.injEq] at h
      subst h
      rw [keys_tx e]; rfl
  | .i _ :: _, ss, h => by simp [keysTx] at h
theorem dctKs_of {M : Store} {w : W} {ks : List Ky} (h : dctKs M w = some ks) : ∃ ws, dctOf M w = some (ks, ws) := by
  cases w with
  | d x =>
    cases x <;> simp only [dctKs] at h <;> try (cases h; done)
    cases h
    exact ⟨_, rfl⟩
  | r n =>
    simp only [dctKs] at h
    split at h
    · rename_i ks ws e
      cases h
      exact ⟨ws, by simp only [dctOf, e]⟩
    · cases h
theorem lb_ok (hcalm : X.calm = true) (b : Lb) : ∃ r : List V → Hp → VK → Prop, CallR X (lbVal b) r ∧ ∀ {Z H : Hp} {f : List Addr} {M : Store} {ws rs : List W} {vs : List V} {Q : VK}, RelM X.K H Z f M → RepWs X.K Z f vs ws → lbSem M b ws = some rs → AnsL X.K Z f H M rs Q → r vs H Q := by
  cases b with
  | list =>
    refine ⟨_, call_list_of, fun {Z H f M ws rs vs Q} rm r h q => ?_⟩
    match ws, h, r with
    | [x], h, r =>
      obtain ⟨v, rfl, r1⟩ := one_rep r
      simp only [lbSem] at h
      obtain ⟨a, ys, rfl, hs, hr⟩ := seq_ok rm r1 h
      exact ⟨a, ys, rfl, hs, fun l hl => q.new rm hl hr⟩
    | [], h, _ => simp [lbSem] at h
    | _ :: _ :: _, h, _ => simp [lbSem] at h
  | sorted =>
    refine ⟨_, (cr_sortedS.or cr_sortedT).or (call_sortedD hcalm), fun {Z H f M ws rs vs Q} rm r h q => ?_⟩
    match ws, h, r with
    | [x], h, r =>
      obtain ⟨v, rfl, r1⟩ := one_rep r
      simp only [lbSem] at h
      cases e : strsIn M x with
      | none => rw [e] at h; cases h
      | some ss =>
        rw [e] at h
        simp only [Option.bind_some] at h
        split at h
        · rename_i hl
          cases h
          have fin : ∀ (ys : List Str) (p : Addr), ys.Perm (ss.map toS) → sortedS ys = true → H p = none → Q (.ref p) (upd H p (.lst (ys.map V.str))) := fun ys p hp hs hn => by
            rw [sorted_one hp hs]
            exact q.new rm hn (strs_of _)
          unfold strsIn at e
          split at e
          · rename_i ks ek
            obtain ⟨ws, ed⟩ := dctKs_of ek
            obtain ⟨a, kvs, rfl, h1, h2, h3⟩ := dct_ok rm r1 ed
            have e4 := keys_tx e
            subst e4
            refine .inr ⟨a, kvs, ss.map toS, rfl, .inl h1, ?_, by simpa using hl, fin⟩
            rw [h2, List.map_map, List.map_map]
            rfl
          · cases e1 : seqOf M x with
            | none => rw [e1] at e; cases e
            | some us =>
              rw [e1] at e
              simp only [Option.bind_some] at e
              obtain ⟨a, ys, rfl, hs, hr⟩ := seq_ok rm r1 e1
              have hy := strs_rep hr e
              subst hy
              rcases hs with hs | hs
              · exact .inl (.inl ⟨a, ss.map toS, rfl, hs, by simpa using hl, fin⟩)
              · exact .inl (.inr ⟨a, ss.map toS, rfl, hs, by simpa using hl, fin⟩)
        · cases h
    | [], h, _ => simp [lbSem] at h
    | _ :: _ :: _, h, _ => simp [lbSem] at h
/-- list + list -/
theorem cat_ok : ∀ {Z H : Hp} {f : List Addr} {M : Store} {x y : W} {ws : List W} {v1 v2 : V} {Q : VK}, RelM X.K H Z f M → RepW X.K Z f v1 x → RepW X.K Z f v2 y → catSem M x y = some ws → AnsL X.K Z f H M ws Q → rCat v1 v2 H Q := by
  intro Z H f M x y ws v1 v2 Q rm r1 r2 h q
  unfold catSem at h
  cases e : listOf M x with
  | none => rw [e] at h; cases h
  | some as =>
    rw [e] at h
    simp only [Option.bind_some] at h
    cases e2 : listOf M y with
    | none => rw [e2] at h; cases h
    | some bs =>
      rw [e2] at h
      simp only [Option.bind_some] at h
      split at h
      · rename_i hl
        cases h
        obtain ⟨a, vs, rfl, h1, h2⟩ := list_ok rm r1 e
        obtain ⟨b, us, rfl, h3, h4⟩ := list_ok rm r2 e2
        exact ⟨a, b, vs, us, rfl, rfl, h1, h3, by rw [h2.length, h4.length, ← line_eq]; exact hl, fun p hp => q.new rm hp (h2.append h4)⟩
      · cases h
/-- a slice of a list -/
theorem slL_ok : ∀ {Z H : Hp} {f : List Addr} {M : Store} {x : W} {ws : List W} {lo hi : Option Int} {v : V} {Q : VK}, RelM X.K H Z f M → RepW X.K Z f v x → listOf M x = some ws → AnsL X.K Z f H M (TN.cut ws lo hi) Q → rSlL X.K v lo hi H Q := by
  intro Z H f M x ws lo hi v Q rm r h q
  obtain ⟨a, vs, rfl, h1, h2⟩ := list_ok rm r h
  exact ⟨a, vs, rfl, SqL.of h1, fun p hp => q.new rm hp (cut_repW h2 lo hi)⟩
/-! ### methods -/
def mtName : Mt → Str
  | .append => "append"
  | .extend => "extend"
  | .insert => "insert"
  | .pop => "pop"
  | .get => "get"
  | .join => "join"
  | .startswith => "startswith"
def mtTy : Mt → String
  | .append => "list"
  | .extend => "list"
  | .insert => "list"
  | .pop => "list"
  | .get => "dict"
  | .join => "str"
  | .startswith => "str"
def mtId : Mt → String
  | .append => "list.append"
  | .extend => "list.extend"
  | .insert => "list.insert"
  | .pop => "list.pop"
  | .get => "dict.get"
  | .join => "str.join"
  | .startswith => "str.startswith"
/-- the methods that are carried -/
def mtOk : Mt → Bool
  | .startswith => true
  | .append => true
  | .extend => true
  | .insert => true
  | .pop => true
  | .get => true
  | _ => false
theorem mtPlain : ∀ m : Mt, mtOk m = true → PlainAttrs (mtTy m)
  | .append, _ => PySem.F.plainAttrs_list
  | .extend, _ => PySem.F.plainAttrs_list
  | .pop, _ => PySem.F.plainAttrs_list
  | .get, _ => PySem.F.plainAttrs_dict
  | .insert, _ => PySem.F.plainAttrs_list
  | .join, h => nomatch h
  | .startswith, _ => PySem.F.plainAttrs_str
theorem mtSlot : ∀ m : Mt, mtOk m = true → Slot (mtTy m) (mtName m) (mtId m)
  | .append, _ => PySem.F.slot_list_append
  | .extend, _ => PySem.F.slot_list_extend
  | .pop, _ => PySem.F.slot_list_pop
  | .get, _ => PySem.F.slot_dict_get
  | .insert, _ => PySem.F.slot_list_insert
  | .join, h => nomatch h
  | .startswith, _ => PySem.F.slot_str_startswith
theorem mtTyp : ∀ m : Mt, mtOk m = true → typeOf (.builtin (mtId m)) = pure (.type "method_descriptor")
  | .append, _ => PySem.F.type_list_append
  | .extend, _ => PySem.F.type_list_extend
  | .pop, _ => PySem.F.type_list_pop
  | .get, _ => PySem.F.type_dict_get
  | .insert, _ => PySem.F.type_list_insert
  | .join, h => nomatch h
  | .startswith, _ => PySem.F.type_str_startswith
/-- what is wanted behind a method -/
theorem Ans.write {w : W} {Q : VK} {n : Nat} {a : Addr} {c c' : Cell} {o : HO} (h : Ans K Z f H (M.set n c') w Q) (rm : RelM K H Z f M) (hm : M[n]? = some c) (hl : c ≠ .dead) (hf : f[n]? = some a) (hc : CellAt K Z f (upd H a o) a c') {v : V} (r : RepW K Z f v w) : Q v (upd H a o) :=
  let ⟨x, y⟩ := rm.write hm hl hf hc
  h v _ _ _ y x r
/-- xs.extend(ys), ys a list or a tuple that is read -/
theorem extend_any {prog : Program} {w : World} {A : Around} {E : Value → Shared → Prop} {s : Shared} {l b : Addr} {items : Array Value} {n n2 : Nat} {items2 : Array Value} {ob : Obj} {T : String} {Q : Value → Shared → Prop}
    (hl : s.heap.get? l = some { cls := .type "list", data := .seq items n }) (hb : s.heap.get? b = some ob) (hc : ob.cls = .type T) (hT : T = "list" ∨ T = "tuple") (hd : ob.data = .seq items2 n2)
    (hlong : ¬ (!items.isEmpty && Builtin.List.listTooLong (items.size + items2.size)) = true) (h1 : items.size ≤ sizeLine) (h2 : items.size + items2.size ≤ sizeLine + 1)
    (h : Q .none { s with heap := s.heap.update l (Obj.mapSeq fun x => x ++ items2) }) : wpAny (model prog w) A (call (.builtin "list.extend") [.ref l, .ref b]) Q E s := by
  refine wpAny_call_entry PySem.F.slot_list_extend ⟨_, hl, rfl⟩ PySem.F.entry_list_extend ?_ (PySem.F.args_list_extend_2 _ _)
  show wpAny _ _ (Builtin.List.listExtendWith (.ref l) (.ref b) .none) _ _ s
  unfold Builtin.List.listExtendWith
  refine wpAny_bind (wpAny_typeOf (T := T) ⟨ob, hb, hc⟩ ?_)
  have ht : (Builtin.List.listSameRef (.ref l) (.ref b) || Value.type T == Value.type "list" || Value.type T == Value.type "tuple") = true := by
    rcases hT with rfl | rfl <;> simp
  rw [if_pos ht]
  refine wpAny_bind (listItems_at hb hd ?_)
  refine wpAny_bind (listItems_at hl rfl ?_)
  rw [if_neg hlong]
  refine wpAny_bind (listUpdate_at hl rfl ?_ h1 (by rw [Array.size_append]; exact h2))
  exact wpAny_pure ⟨_, rfl, h⟩
def rExtendA (K : PySem.W.Frag) : V → List V → Hp → VK → Prop := fun x vs H Q => ∃ l b xs zs, x = .ref l ∧ vs = [.ref b] ∧ H l = some (.lst xs) ∧ (SqL K H b zs ∨ SqT K H b zs) ∧ xs.length + zs.length ≤ sizeLine ∧ Q .non (upd H l (.lst (xs ++ zs)))
theorem mt_extendA : MtM X "list.extend" (rExtendA X.K) := by
  intro pins s σ H x vs v us Q I rx rv h
  obtain ⟨l, b, xs, zs, rfl, rfl, hH, hB, hz, q⟩ := h
  cases rx
  obtain ⟨u, rfl, ru⟩ := rv.one
  cases ru
  obtain ⟨z, its, n, r, hl, e⟩ := I.lstM hH
  have go : ∀ (its2 : List Value) (n2 : Nat) (ob : Obj) (T : String), Vals zs its2 → s.heap.get? b = some ob → ob.cls = .type T → (T = "list" ∨ T = "tuple") → ob.data = .seq its2.toArray n2 → wpAny (model X.prog X.w) X.A (call (.builtin "list.extend") [.ref l, .ref b]) (EP X pins σ Q) X.xe s := fun its2 n2 ob T r2 hb hc hT hd => by
    have hl2 := r2.length
    have hsz : its.toArray.size + its2.toArray.size ≤ sizeLine := by rw [List.size_toArray, List.size_toArray]; omega
    have hlong : ¬ (!its.toArray.isEmpty && Builtin.List.listTooLong (its.toArray.size + its2.toArray.size)) = true := by
      rw [notLongL hsz, Bool.and_false]
      exact Bool.false_ne_true
    refine extend_any e hb hc hT hd hlong (by rw [List.size_toArray]; omega) (by omega) ?_
    refine ⟨.non, _, I.lset (its' := its ++ its2) (t' := s.toks) hH e (by simp) (r.append r2) ?_, rfl, q⟩
    rw [List.length_append]
    omega
  rcases hB with hB | hB
  · obtain ⟨its2, r2, ⟨ob, n2, hb, hc, _, hd⟩, _⟩ := I.list hB
    exact go its2 n2 ob "list" r2 hb hc (.inl rfl) hd
  · obtain ⟨its2, r2, ⟨ob, hb, hc, n2, hd⟩, _⟩ := I.tuple hB
    exact go its2 n2 ob "tuple" r2 hb hc (.inr rfl) hd
def rGet2 : V → List V → Hp → VK → Prop := fun x vs H Q => ∃ a y z o, x = .ref a ∧ vs = [y, z] ∧ DGet H a y o ∧ Q (o.getD z) H
theorem mt_get2 (hu : X.A.units + 200 < cLine) : MtM X "dict.get" rGet2 := by
  intro pins s σ H x vs v us Q I rx rv h
  obtain ⟨a, y, z, o, rfl, rfl, g, q⟩ := h
  cases rx
  obtain ⟨u, u2, rfl, r1, r2⟩ := Vals.two rv
  exact d_get2 (by omega) I g r1 r2 fun w' s' I' rw' => ⟨_, H, I', rw', q⟩
theorem getLast_ix {vs : List V} {ws : List W} (r : RepWs K Z f vs ws) {w : W} (h : ws.getLast? = some w) : ∃ v, vs[vs.length - 1]? = some v ∧ RepW K Z f v w := by
  rw [List.getLast?_eq_getElem?] at h
  rw [r.length]
  exact r.get h
theorem RepWs.dropLast {vs : List V} {ws : List W} (r : RepWs K Z f vs ws) : RepWs K Z f vs.dropLast ws.dropLast := by
  rw [List.dropLast_eq_take, List.dropLast_eq_take, r.length]
  exact r.take _
theorem dget_map (k : Ky) : ∀ (ks : List Ky) (vs : List D), dget k ks (vs.map W.d) = (dget k ks vs).map W.d
  | [], _ => by simp [dget]
  | _ :: _, [] => by simp [dget]
  | a :: ks, v :: vs => by
    simp only [List.map_cons, dget]
    split
    · rfl
    · exact dget_map k ks vs
theorem mt_ok (hu : X.A.units + 200 < cLine) (m : Mt) (hm : mtOk m = true) : ∃ r : V → List V → Hp → VK → Prop, MtR X (mtId m) r ∧ ∀ {Z H : Hp} {f : List Addr} {M M' : Store} {o w : W} {ws : List W} {v : V} {vs : List V} {Q : VK}, RelM X.K H Z f M → RepW X.K Z f v o → RepWs X.K Z f vs ws → mtSem M m o ws = some (w, M') → Ans X.K Z f H M' w Q → r v vs H Q := by
  cases m with
  | append =>
    refine ⟨_, mt_append, fun {Z H f M M' o w ws v vs Q} rm r1 r2 h q => ?_⟩
    cases o with
    | d _ => simp [mtSem] at h
    | r n =>
      match ws, h, r2 with
      | [x], h, r2 =>
        obtain ⟨u, rfl, r3⟩ := one_rep r2
        simp only [mtSem] at h
        split at h
        · rename_i xs e
          split at h
          · rename_i hl
            cases h
            cases r1 with
            | r hf =>
              rename_i a
              obtain ⟨ys, h1, h2⟩ := rm.cell _ _ _ e hf
              refine ⟨a, ys, u, rfl, rfl, h1, by rw [h2.length, ← line_eq]; exact hl, ?_⟩
              exact q.write rm e (fun z => nomatch z) hf ⟨_, upd_same, h2.append (.cons r3 .nil)⟩ (.d .non)
          · cases h
        · cases h
      | [], h, _ => simp [mtSem] at h
      | _ :: _ :: _, h, _ => simp [mtSem] at h
  | extend =>
    refine ⟨_, mt_extendA, fun {Z H f M M' o w ws v vs Q} rm r1 r2 h q => ?_⟩
    cases o with
    | d _ => simp [mtSem] at h
    | r n =>
      match ws, h, r2 with
      | [x], h, r2 =>
        obtain ⟨u, rfl, r3⟩ := one_rep r2
        simp only [mtSem] at h
        split at h
        · rename_i xs ys e e2
          split at h
          · rename_i hl
            cases h
            obtain ⟨b, us, rfl, hs, hr⟩ := seq_ok rm r3 e2
            cases r1 with
            | r hf =>
              rename_i a
              obtain ⟨zs, h1, h2⟩ := rm.cell _ _ _ e hf
              refine ⟨a, b, zs, us, rfl, rfl, h1, hs, by rw [h2.length, hr.length, ← line_eq]; exact hl, ?_⟩
              exact q.write rm e (fun z => nomatch z) hf ⟨_, upd_same, h2.append hr⟩ (.d .non)
          · cases h
        · cases h
      | [], h, _ => simp [mtSem] at h
      | _ :: _ :: _, h, _ => simp [mtSem] at h
  | pop =>
    refine ⟨_, mt_pop, fun {Z H f M M' o w ws v vs Q} rm r1 r2 h q => ?_⟩
    cases o with
    | d _ => simp [mtSem] at h
    | r n =>
      match ws, h, r2 with
      | [], h, r2 =>
        cases r2
        simp only [mtSem] at h
        split at h
        · rename_i xs e
          cases e2 : xs.getLast? with
          | none => rw [e2] at h; cases h
          | some x =>
            rw [e2] at h; cases h
            cases r1 with
            | r hf =>
              rename_i a
              obtain ⟨zs, h1, h2⟩ := rm.cell _ _ _ e hf
              obtain ⟨y, g1, g2⟩ := getLast_ix h2 e2
              refine ⟨a, zs, y, rfl, rfl, h1, g1, ?_⟩
              exact q.write rm e (fun z => nomatch z) hf ⟨_, upd_same, h2.dropLast⟩ g2
        · cases h
      | _ :: _, h, _ => simp [mtSem] at h
  | get =>
    refine ⟨_, mt_get2 hu, fun {Z H f M M' o w ws v vs Q} rm r1 r2 h q => ?_⟩
    have go : ∀ (ks : List Ky) (us : List W) (d : D) (x : W) (k : Ky), dctOf M o = some (ks, us) → ws = [.d d, x] → kyOf d = some k → w = (dget k ks us).getD x → M' = M → rGet2 v vs H Q := by
      intro ks us d x k hd e1 e2 e3 e4
      subst e1 e3 e4
      obtain ⟨y, z, rfl, r3, r4⟩ := two_rep r2
      obtain ⟨a, kvs, rfl, h1, h2, h3⟩ := dct_ok rm r1 hd
      cases r3 with
      | d r3 =>
        have e5 := ky_rep r3 e2
        subst e5
        refine ⟨a, _, z, _, rfl, rfl, DGet.k h1, ?_⟩
        have g := (kv_get k h2 h3).1
        cases e6 : dget k ks us with
        | none =>
          rw [e6] at g q
          rw [g]
          exact q.here rm r4
        | some y =>
          rw [e6] at g q
          obtain ⟨u, g1, g2⟩ := g
          rw [g1]
          exact q.here rm g2
    match ws, h with
    | [.d d, x], h =>
      cases o with
      | d o =>
        cases o with
        | dct ks us =>
          simp only [mtSem] at h
          cases e : kyOf d with
          | none => rw [e] at h; cases h
          | some k =>
            rw [e] at h
            simp only [Option.map_some, Option.some.injEq, Prod.mk.injEq] at h
            exact go ks (us.map .d) d x k rfl rfl e (by rw [dget_map, h.1]) h.2.symm
        | _ => simp [mtSem] at h
      | r n =>
        simp only [mtSem] at h
        split at h
        · rename_i ks us e2
          cases e : kyOf d with
          | none => rw [e] at h; cases h
          | some k =>
            rw [e] at h
            simp only [Option.map_some, Option.some.injEq, Prod.mk.injEq] at h
            exact go ks us d x k (by simp only [dctOf, e2]) rfl e h.1.symm h.2.symm
        · cases h
    | [], h => cases o with
      | d o => cases o <;> simp [mtSem] at h
      | r n => simp [mtSem] at h
    | [_], h => cases o with
      | d o => cases o <;> simp [mtSem] at h
      | r n => simp [mtSem] at h
    | .r _ :: _ :: _, h => cases o with
      | d o => cases o <;> simp [mtSem] at h
      | r n => simp [mtSem] at h
    | .d _ :: _ :: _ :: _, h => cases o with
      | d o => cases o <;> simp [mtSem] at h
      | r n => simp [mtSem] at h
  | insert =>
    refine ⟨_, mt_insert, fun {Z H f M M' o w ws v vs Q} rm r1 r2 h q => ?_⟩
    cases o with
    | d _ => simp [mtSem] at h
    | r n =>
      match ws, h, r2 with
      | [.d (.int i), x], h, r2 =>
        cases r2 with
        | cons ra rb =>
          obtain ⟨u, rfl, r3⟩ := one_rep rb
          cases ra with
          | d ra =>
            cases ra
            simp only [mtSem] at h
            split at h
            · rename_i xs e
              split at h
              · rename_i hl
                obtain ⟨hl1, hl2, hl3⟩ := hl
                cases h
                cases r1 with
                | r hf =>
                  rename_i a
                  obtain ⟨ys, h1, h2⟩ := rm.cell _ _ _ e hf
                  have hlt : i < 2 ^ 63 := by
                    unfold line at hl1
                    omega
                  refine ⟨a, ys, i, u, rfl, rfl, h1, by rw [h2.length, ← line_eq]; exact hl1, hl2, hlt, ?_⟩
                  refine q.write rm e (fun z => nomatch z) hf ⟨_, upd_same, ?_⟩ (.d .non)
                  rw [List.append_assoc]
                  exact (h2.take i.toNat).append (.cons r3 (h2.drop i.toNat))
              · cases h
            · cases h
      | [], h, _ => simp [mtSem] at h
      | [_], h, _ => simp [mtSem] at h
      | .r _ :: _ :: _, h, _ => simp [mtSem] at h
      | .d (.non) :: _ :: _, h, _ => simp [mtSem] at h
      | .d (.bl _) :: _ :: _, h, _ => simp [mtSem] at h
      | .d (.str _) :: _ :: _, h, _ => simp [mtSem] at h
      | .d (.tup _) :: _ :: _, h, _ => simp [mtSem] at h
      | .d (.lst _) :: _ :: _, h, _ => simp [mtSem] at h
      | .d (.dct _ _) :: _ :: _, h, _ => simp [mtSem] at h
      | .d (.scr _) :: _ :: _, h, _ => simp [mtSem] at h
      | .d (.int _) :: _ :: _ :: _, h, _ => simp [mtSem] at h
  | join => cases hm
  | startswith =>
    refine ⟨_, mt_startswith, fun {Z H f M M' o w ws v vs Q} rm r1 r2 h q => ?_⟩
    cases o with
    | r n => simp [mtSem] at h
    | d o =>
      cases r1 with
      | d r1 =>
        cases r1 with
        | str t =>
          match ws, h, r2 with
          | [.d (.str u)], h, r2 =>
            obtain ⟨y, rfl, r3⟩ := one_rep r2
            cases r3 with
            | d r3 =>
              cases r3
              simp only [mtSem, Option.some.injEq, Prod.mk.injEq] at h
              obtain ⟨rfl, rfl⟩ := h
              exact ⟨_, _, rfl, rfl, q.here rm (.d (.bl _))⟩
          | [], h, _ => simp [mtSem] at h
          | [.r _], h, _ => simp [mtSem] at h
          | [.d .non], h, _ => simp [mtSem] at h
          | [.d (.bl _)], h, _ => simp [mtSem] at h
          | [.d (.int _)], h, _ => simp [mtSem] at h
          | [.d (.tup _)], h, _ => simp [mtSem] at h
          | [.d (.lst _)], h, _ => simp [mtSem] at h
          | [.d (.dct _ _)], h, _ => simp [mtSem] at h
          | [.d (.scr _)], h, _ => simp [mtSem] at h
          | _ :: _ :: _, h, _ => simp [mtSem] at h
        | _ => simp [mtSem] at h
/-! ### stores -/
theorem kvs_len {kvs : List (Key × V)} {ks : List Ky} (h : kvs.map (·.1) = ks.map kyK) : kvs.length = ks.length := by
  have := congrArg List.length h
  simpa using this
theorem put_any (k : Ky) : ∀ {kvs : List (Key × V)} {ks : List Ky}, kvs.map (·.1) = ks.map kyK → (kvs.any fun kv => decide (kv.1 = kyK k)) = decide (k ∈ ks)
  | [], [], _ => rfl
  | [], _ :: _, h => by simp at h
  | _ :: _, [], h => by simp at h
  | p :: kvs, a :: ks, h => by
    simp only [List.map_cons, List.cons.injEq] at h
    rw [List.any_cons, put_any k h.2, h.1]
    by_cases e : a = k
    · subst e; simp
    · have ne : ¬ kyK a = kyK k := fun q => e (kyK_inj q)
      have ne2 : ¬ k = a := fun q => e q.symm
      simp [ne, ne2]
theorem put_map {v : V} {w : W} (rw' : RepW K Z f v w) (k : Ky) : ∀ {kvs : List (Key × V)} {ks : List Ky} {ws : List W}, kvs.map (·.1) = ks.map kyK → RepWs K Z f (kvs.map (·.2)) ws →
    (kvs.map (fun kv => if kv.1 = kyK k then (kv.1, v) else kv)).map (·.1) = ks.map kyK ∧ RepWs K Z f ((kvs.map (fun kv => if kv.1 = kyK k then (kv.1, v) else kv)).map (·.2)) (List.zipWith (fun a x => if a = k then w else x) ks ws)
  | [], [], ws, _, r => ⟨rfl, by cases r; exact .nil⟩
  | [], _ :: _, _, h, _ => by simp at h
  | _ :: _, [], _, h, _ => by simp at h
  | p :: kvs, a :: ks, ws, h, r => by
    simp only [List.map_cons, List.cons.injEq] at h r
    cases r with
    | cons r1 r2 =>
      obtain ⟨i1, i2⟩ := put_map rw' k h.2 r2
      by_cases e : a = k
      · subst e
        simp only [List.map_cons, h.1, if_true, List.zipWith_cons_cons, i1]
        exact ⟨trivial, .cons rw' i2⟩
      · have ne : ¬ kyK a = kyK k := fun q => e (kyK_inj q)
        simp only [List.map_cons, h.1, if_neg ne, List.zipWith_cons_cons, if_neg e, i1]
        exact ⟨trivial, .cons r1 i2⟩
theorem dput_rep {v : V} {w : W} (rw' : RepW K Z f v w) (k : Ky) {kvs : List (Key × V)} {ks : List Ky} {ws : List W} (h : kvs.map (·.1) = ks.map kyK) (r : RepWs K Z f (kvs.map (·.2)) ws) :
    (putK kvs (kyK k) v).map (·.1) = (dputK k w ks ws).1.map kyK ∧ RepWs K Z f ((putK kvs (kyK k) v).map (·.2)) (dputK k w ks ws).2 := by
  unfold putK dputK
  rw [put_any k h]
  by_cases e : k ∈ ks
  · rw [if_pos (decide_eq_true e), if_pos e]
    exact put_map rw' k h r
  · rw [if_neg (by simp [e]), if_neg e]
    refine ⟨by simp [h], ?_⟩
    rw [List.map_append]
    exact r.append (.cons rw' .nil)
theorem PSet.or {t u : TSet} (h1 : PSet X t) (h2 : PSet X u) : PSet X fun o i v H Q => t o i v H Q ∨ u o i v H Q :=
  fun pins s σ H o i v ov iv w Q I a b c h => h.elim (h1 pins s σ H o i v ov iv w Q I a b c) (h2 pins s σ H o i v ov iv w Q I a b c)
theorem set_ok (hu : X.A.units + 200 < cLine) : ∃ r : TSet, PSet X r ∧ ∀ {Z H : Hp} {f : List Addr} {M M' : Store} {o i w : W} {v1 v2 v3 : V} {Q : Hp → Prop}, RelM X.K H Z f M → RepW X.K Z f v1 o → RepW X.K Z f v2 i → RepW X.K Z f v3 w → setSem M o i w = some M' →
    (∀ H', Stp Z f H Z f H' → RelM X.K H' Z f M' → Q H') → r v1 v2 v3 H Q := by
  refine ⟨_, PSet.or set_list (set_dict (by omega)), fun {Z H f M M' o i w v1 v2 v3 Q} rm r1 r2 r3 h q => ?_⟩
  cases o with
  | d _ => simp [setSem] at h
  | r n =>
    cases i with
    | r _ => simp [setSem] at h
    | d k =>
      cases r1 with
      | r hf =>
        rename_i a
        simp only [setSem] at h
        split at h
        · rename_i ws e
          cases k with
          | int i =>
            simp only at h
            cases e2 : TN.ixN ws.length i with
            | none => rw [e2] at h; cases h
            | some j =>
              rw [e2] at h
              simp only [Option.map_some, Option.some.injEq] at h
              subst h
              cases r2 with
              | d r2 =>
                cases r2
                obtain ⟨vs, h1, h2⟩ := rm.cell _ _ _ e hf
                refine .inl ⟨a, vs, i, j, rfl, rfl, h1, by rw [← ixN_eq, h2.length]; exact e2, ?_⟩
                obtain ⟨x, y⟩ := rm.write e (fun z => nomatch z) hf (c' := .lst (ws.set j w)) (o := .lst (vs.set j v3)) ⟨_, upd_same, h2.set r3 j⟩
                exact q _ y x
          | _ => simp at h
        · rename_i ks ws e
          cases e2 : kyOf k with
          | none => rw [e2] at h; cases h
          | some ky =>
            rw [e2] at h
            simp only [Option.bind_some] at h
            split at h
            · rename_i hl
              simp only [Option.some.injEq] at h
              subst h
              cases r2 with
              | d r2 =>
                have e5 := ky_rep r2 e2
                subst e5
                obtain ⟨kvs, h1, h2, h3⟩ := rm.cell _ _ _ e hf
                refine .inr ⟨a, _, rfl, DPut.k h1 (by rw [kvs_len h2, ← line_eq]; exact hl), ?_⟩
                obtain ⟨g1, g2⟩ := dput_rep r3 ky h2 h3
                obtain ⟨x, y⟩ := rm.write e (fun z => nomatch z) hf (c' := .dct (dputK ky w ks ws).1 (dputK ky w ks ws).2) (o := .dK (putK kvs (kyK ky) v3)) ⟨_, upd_same, g1, g2⟩
                exact q _ y x
            · cases h
        · cases h
/-! ### isinstance -/
def tyName : Ty → String
  | .int => "int"
  | .str => "str"
  | .tuple => "tuple"
  | .bool => "bool"
  | .list => "list"
theorem isi_ok (t : Ty) {Z H : Hp} {f : List Addr} {M : Store} {x : W} {v : V} {b : Bool} {Q : VK} (rm : RelM X.K H Z f M) (r : RepW X.K Z f v x) (h : tyOf t x = some b) (q : Ans X.K Z f H M (.d (.bl b)) Q) : rIsi X.K [v, .ty (tyName t)] H Q := by
  have fin : ∀ (n : String), TyX X.K H v (.type n) → kitB n (tyName t) = some b → rIsi X.K [v, .ty (tyName t)] H Q := fun n a c =>
    ⟨v, .ty (tyName t), .type n, .type (tyName t), b, rfl, .ty _, a, kit_ty c, q.here rm (.d (.bl b))⟩
  cases r with
  | r hf => simp [tyOf] at h
  | d r =>
    cases r with
    | non =>
      simp only [tyOf, Option.some.injEq] at h; subst h
      exact fin "NoneType" (.base .non) (by cases t <;> decide +kernel)
    | bl c =>
      simp only [tyOf, Option.some.injEq] at h; subst h
      exact fin "bool" (.base (.bl c)) (by cases t <;> decide +kernel)
    | int c =>
      simp only [tyOf, Option.some.injEq] at h; subst h
      exact fin "int" (.base (.int c)) (by cases t <;> decide +kernel)
    | str c =>
      simp only [tyOf, Option.some.injEq] at h; subst h
      exact fin "str" (.base (.str _)) (by cases t <;> decide +kernel)
    | @tup a vs ds hs hr =>
      simp only [tyOf, Option.some.injEq] at h; subst h
      have ty : TyX X.K H (V.ref a) (.type "tuple") := by
        rcases hs with (hs | ⟨o, hs⟩) | hs
        · exact .base (.tup (rm.sub _ _ hs))
        · exact .fTuple (rm.sub _ _ hs)
        · obtain ⟨o, its, n, h1, h2, _⟩ := hs
          exact .kTuple h1 h2
      exact fin "tuple" ty (by cases t <;> decide +kernel)
    | lst hs hr =>
      simp only [tyOf, Option.some.injEq] at h; subst h
      exact fin "list" (.base (.lst (rm.sub _ _ hs))) (by cases t <;> decide +kernel)
    | scr _ _ => simp [tyOf] at h
    | dct _ _ _ => simp [tyOf] at h
end
end TN

/-! TNi: each construct, given its parts. -/
namespace TN
open PySem PySem.Spec PyProof.Rows L2
abbrev sx (X : Cx) (XR : XRT) (W : WX) : Sx := ⟨X.K, XR, W⟩
section
variable {K : PySem.W.Frag} {Z Z1 Z' H H0 H1 H' : Hp} {f f1 f' : List Addr} {M : Store} {ws : List W} {Q : VK}
theorem AnsL.step (h : AnsL K Z f H M ws Q) (st : Stp Z f H Z1 f1 H1) : AnsL K Z1 f1 H1 M ws Q := fun a vs H' Z' f' s rm e1 e2 e3 e4 r => h a vs H' Z' f' (st.trans s) rm e1 (st.dom a e2) e3 e4 r
/-- an object that nobody tracks is frozen -/
theorem RelM.freeze (rm : RelM K H Z f M) {a : Addr} {o : HO} (e : H a = some o) (hz : Z a = none) (hf : a ∉ f) : RelM K H (upd Z a o) f M := by
  have sz := same_upd (o := o) hz
  refine ⟨fun b u q => ?_, rm.len, rm.nd, fun n c b h1 h2 => ?_, fun n c b h1 h2 => ?_, rm.inH⟩
  · by_cases hb : b = a
    · subst hb; rw [upd_same] at q; rw [e]; exact q
    · rw [upd_ne hb] at q; exact rm.sub b u q
  · have := rm.cell n c b h1 h2
    cases c with
    | lst ws => obtain ⟨vs, q1, q2⟩ := this; exact ⟨vs, q1, q2.mono sz (List.prefix_refl _)⟩
    | dct ks ws => obtain ⟨kvs, q1, q2, q3⟩ := this; exact ⟨kvs, q1, q2, q3.mono sz (List.prefix_refl _)⟩
    | ins _ _ => exact this.elim
    | dead => trivial
  · rcases rm.off n c b h1 h2 with q | q
    · exact .inl q
    · refine .inr ?_
      have ne : b ≠ a := fun z => hf (z ▸ List.mem_of_getElem? h2)
      rw [upd_ne ne]; exact q
theorem Stp.freeze (st : Stp Z f H0 Z' f' H') {a : Addr} {o : HO} (h0 : H0 a = none) (hz : Z' a = none) : Stp Z f H0 (upd Z' a o) f' H' :=
  ⟨st.z.trans (same_upd hz), st.pre, st.fr, st.dom, fun b u e => by
    by_cases hb : b = a
    · subst hb; exact .inr (.inl h0)
    · rw [upd_ne hb] at e; exact st.nz b u e, st.nf⟩
/-- it becomes a cell -/
theorem RelM.track (rm : RelM K H Z f M) {a : Addr} {o : HO} {c : Cell} (e : H a = some o) (hz : Z a = none) (hf : a ∉ f) (hc : CellAt K Z (f ++ [a]) H a c) : RelM K H Z (f ++ [a]) (M ++ [c]) := by
  have pf : f <+: f ++ [a] := List.prefix_append _ _
  refine ⟨rm.sub, by simp [rm.len], ?_, fun n c' b h1 h2 => ?_, fun n c' b h1 h2 => ?_, fun b hb => ?_⟩
  · rw [List.nodup_append]
    refine ⟨rm.nd, by simp, fun x hx b hb => ?_⟩
    have : b = a := by simpa using hb
    subst this
    exact fun e => hf (e ▸ hx)
  · by_cases hn : n < f.length
    · rw [List.getElem?_append_left hn] at h2
      rw [List.getElem?_append_left (by rw [← rm.len]; exact hn)] at h1
      have := rm.cell n c' b h1 h2
      cases c' with
      | lst ws => obtain ⟨vs, q1, q2⟩ := this; exact ⟨vs, q1, q2.mono (Same.refl _) pf⟩
      | dct ks ws => obtain ⟨kvs, q1, q2, q3⟩ := this; exact ⟨kvs, q1, q2, q3.mono (Same.refl _) pf⟩
      | ins _ _ => exact this.elim
      | dead => trivial
    · have e : n = f.length := by
        have := (List.getElem?_eq_some_iff.mp h2).1
        simp at this; omega
      subst e
      rw [rm.len, List.getElem?_append_right (Nat.le_refl _)] at h1
      rw [List.getElem?_append_right (Nat.le_refl _)] at h2
      simp at h1 h2
      subst h1 h2
      exact hc
  · by_cases hn : n < f.length
    · rw [List.getElem?_append_left hn] at h2
      rw [List.getElem?_append_left (by rw [← rm.len]; exact hn)] at h1
      exact rm.off n c' b h1 h2
    · have e : n = f.length := by
        have := (List.getElem?_eq_some_iff.mp h2).1
        simp at this; omega
      subst e
      rw [List.getElem?_append_right (Nat.le_refl _)] at h2
      simp at h2
      subst h2
      exact .inr hz
  · rcases List.mem_append.mp hb with h | h
    · exact rm.inH b h
    · have : b = a := by simpa using h
      subst this; rw [e]; exact fun z => nomatch z
theorem Stp.track (st : Stp Z f H0 Z' f' H') {a : Addr} (h0 : H0 a = none) : Stp Z f H0 Z' (f' ++ [a]) H' :=
  ⟨st.z, st.pre.trans (List.prefix_append _ _), st.fr, st.dom, st.nz, fun b hb => by
    rcases List.mem_append.mp hb with h | h
    · exact st.nf b h
    · have : b = a := by simpa using h
      subst this; exact .inr h0⟩
end
/-- a list that has just been laid -/
def PostL (S : Sx) (σ : L2.St) (Z : Hp) (f : List Addr) (H : Hp) (r : R (List W × Store)) (Q : VK) : Prop := match r with
  | .ok (ws, M') => AnsL S.K Z f H M' ws Q
  | .exn x _ M' => ∀ cls d H' Z' f', Stp Z f H Z' f' H' → RelM S.K H' Z' f' M' → S.XR x cls d H' → S.W cls d σ H'
  | .stuck => False
def rdL (S : Sx) (Γ : Ctx) (l : L) : TE := fun σ H Q => ∃ s Z f M, RelM S.K H Z f M ∧ RelS S.K Z f σ s ∧ PostL S σ Z f H (evL Γ l s M) Q
section
variable {S : Sx} {α β : Type} {Rp : Hp → Hp → List Addr → β → α → Prop} {σ : L2.St} {Z H : Hp} {f : List Addr} {M : Store} {s : Env}
theorem PostL.step {r : R (List W × Store)} {Q : VK} {Z1 H1 : Hp} {f1 : List Addr} (st : Stp Z f H Z1 f1 H1) (h : PostL S σ Z f H r Q) : PostL S σ Z1 f1 H1 r Q := by
  cases r with
  | ok p => obtain ⟨x, M'⟩ := p; exact AnsL.step h st
  | exn x s m => exact fun cls d H' Z' f' s rm xr => h cls d H' Z' f' (st.trans s) rm xr
  | stuck => exact h
theorem PostL.bind {r : R (α × Store)} {k : α × Store → R (List W × Store)} {Q : VK} (h : PostL S σ Z f H (r.bind k) Q) :
    Post S Rp σ Z f H r fun b H1 => ∃ x Z1 f1 M1, Stp Z f H Z1 f1 H1 ∧ RelM S.K H1 Z1 f1 M1 ∧ Rp H1 Z1 f1 b x ∧ PostL S σ Z1 f1 H1 (k (x, M1)) Q := by
  cases r with
  | ok p =>
    obtain ⟨x, M'⟩ := p
    intro b H' Z' f' s rm rp
    exact ⟨x, Z', f', M', s, rm, rp, PostL.step s h⟩
  | exn x s m => exact h
  | stuck => exact h
theorem PostL.of {γ : Type} {o : Option γ} {k : γ → R (List W × Store)} {Q : VK} (h : PostL S σ Z f H ((R.of o).bind k) Q) : ∃ x, o = some x ∧ PostL S σ Z f H (k x) Q := by
  cases o with
  | none => exact h.elim
  | some x => exact ⟨x, rfl, h⟩
theorem rd.fstL {ev : Env → Store → R (α × Store)} {k : α × Store → R (List W × Store)} {Q : VK} {Q1 : β → Hp → Prop} (rm : RelM S.K H Z f M) (rs : RelS S.K Z f σ s) (h : PostL S σ Z f H ((ev s M).bind k) Q)
    (go : ∀ b H1 x Z1 f1 M1, Stp Z f H Z1 f1 H1 → RelM S.K H1 Z1 f1 M1 → RelS S.K Z1 f1 σ s → Rp H1 Z1 f1 b x → PostL S σ Z1 f1 H1 (k (x, M1)) Q → Q1 b H1) : rd S Rp ev σ H Q1 :=
  ⟨s, Z, f, M, rm, rs, (PostL.bind (Rp := Rp) h).mono fun b H1 ⟨x, Z1, f1, M1, st, rm1, rp, p⟩ => go b H1 x Z1 f1 M1 st rm1 (rs.mono st.z st.pre) rp p⟩
end
section
variable {X : Cx} {XR : XRT} {W : WX} {Γ : Ctx} {pos : Pos} {e a b c : Expr} {es : List Expr} {ea eb ec : E} {ees : Es}
theorem ge_loc {i : Nat} {x : PySem.Str} (hN : X.N[i]? = some x) (hv : Vis X.env.scope x) (hd : (x == ("__debug__" : PySem.Str)) = false) (hcd : (x == ("__classdict__" : PySem.Str)) = false) : PE X (.Name x pos) (rdE (sx X XR W) Γ (.loc i)) := by
  refine (pe_var hN hv hd hcd).weak fun σ H Q ⟨s, Z, f, M, rm, rs, h⟩ => ?_
  simp only [evE] at h
  split at h
  · rename_i w e
    obtain ⟨v, e1, r⟩ := rs.get i w e
    exact ⟨v, e1, h v H Z f Stp.refl rm r⟩
  · exact h.elim
theorem ge_con {g : Nat} {x : PySem.Str} {v : V} {u : Value} {d : D} (hg : Gl X x) (hm : X.mg x = some u) (r : RelV v u) (hd : (x == ("__debug__" : PySem.Str)) = false) (hc : Γ.con g = some d) (hr : ∀ H Z f M, RelM X.K H Z f M → RepD X.K Z v d) :
    PE X (.Name x pos) (rdE (sx X XR W) Γ (.con g)) := by
  refine (pe_glob hg hm r hd).weak fun σ H Q ⟨s, Z, f, M, rm, rs, h⟩ => ?_
  simp only [evE, hc] at h
  obtain ⟨d2, e, h2⟩ := Post.of h
  have e2 : d = d2 := by cases d <;> simp [conSem] at e <;> exact e
  rw [← e2] at h2
  exact h2 v H Z f Stp.refl rm (.d (hr H Z f M rm))
theorem ge_litC {k : Const} {j : Nat} {v : V} {d : D} (hp : PE X (.Constant k j pos) (tC v)) (hr : ∀ Z, RepD X.K Z v d) : PE X (.Constant k j pos) (rdE (sx X XR W) Γ (.lit d)) := by
  refine hp.weak fun σ H Q ⟨s, Z, f, M, rm, rs, h⟩ => ?_
  simp only [evE] at h
  exact h v H Z f Stp.refl rm (.d (hr Z))
/-! several -/
theorem ga_nil : PA X [] (rdEs (sx X XR W) Γ .nil) := by
  refine pa_nil.weak fun σ H Q ⟨s, Z, f, M, rm, rs, h⟩ => ?_
  simp only [evEs] at h
  exact h [] H Z f Stp.refl rm .nil
def plE : Expr → Bool
  | .Starred _ _ => false
  | _ => true
theorem star_cons {env : PySem.Env} (h : plE e = true) : starEach (e :: es) env = (false, eval e env) :: starEach es env := by
  cases e <;> first | rfl | cases h
theorem star_any {env : PySem.Env} : ∀ {es : List Expr}, es.all plE = true → (backTo pos (starEach es env)).any (·.1) = false
  | [], _ => rfl
  | e :: es, h => by
    rw [List.all_cons, Bool.and_eq_true] at h
    rw [star_cons h.1]
    have ih := star_any (env := env) h.2
    unfold backTo at ih ⊢
    rw [List.map_cons, List.any_cons, ih]
    rfl
theorem ga_cons (h : plE e = true) (he : PE X e (rdE (sx X XR W) Γ ea)) (hes : PA X es (rdEs (sx X XR W) Γ ees)) : PA X (e :: es) (rdEs (sx X XR W) Γ (.cons ea ees)) := by
  refine (pa_cons he hes (star_cons h)).weak fun σ H Q ⟨s, Z, f, M, rm, rs, h⟩ => ?_
  simp only [evEs] at h
  refine rd.fst rm rs h fun v1 H1 x Z1 f1 M1 st1 rm1 rs1 rp1 h => ?_
  refine rd.fst rm1 rs1 h fun v2 H2 y Z2 f2 M2 st2 rm2 rs2 rp2 h => ?_
  exact h (v1 :: v2) H2 Z2 f2 Stp.refl rm2 (.cons (rp1.mono st2.z st2.pre) rp2)
theorem evEs_len : ∀ (ees : Es) {s : Env} {M : Store} {ws : List TN.W} {M' : Store}, evEs Γ ees s M = .ok (ws, M') → ws.length = ees.len
  | .nil, s, M, ws, M', h => by simp only [evEs, R.ok.injEq, Prod.mk.injEq] at h; rw [← h.1]; rfl
  | .cons e es, s, M, ws, M', h => by
    simp only [evEs] at h
    cases q : evE Γ e s M with
    | ok p =>
      rw [q] at h
      simp only [R.bind_ok] at h
      cases q2 : evEs Γ es s p.2 with
      | ok p2 =>
        rw [q2] at h
        simp only [R.bind_ok, R.ok.injEq, Prod.mk.injEq] at h
        rw [← h.1, List.length_cons, evEs_len es q2]; rfl
      | exn x s m => rw [q2] at h; cases h
      | stuck => rw [q2] at h; cases h
    | exn x s m => rw [q] at h; cases h
    | stuck => rw [q] at h; cases h
/-- the length is known -/
theorem rd.args {σ : L2.St} {Z H : Hp} {f : List Addr} {M : Store} {s : Env} {γ δ : Type} {Rp' : Hp → Hp → List Addr → δ → γ → Prop} {k : List TN.W × Store → R (γ × Store)} {Q : δ → Hp → Prop} {Q1 : List V → Hp → Prop} (rm : RelM X.K H Z f M) (rs : RelS X.K Z f σ s)
    (h : Post (sx X XR W) Rp' σ Z f H ((evEs Γ ees s M).bind k) Q)
    (go : ∀ b H1 x Z1 f1 M1, Stp Z f H Z1 f1 H1 → RelM X.K H1 Z1 f1 M1 → RelS X.K Z1 f1 σ s → RepWs X.K Z1 f1 b x → x.length = ees.len → Post (sx X XR W) Rp' σ Z1 f1 H1 (k (x, M1)) Q → Q1 b H1) : rdEs (sx X XR W) Γ ees σ H Q1 := by
  refine ⟨s, Z, f, M, rm, rs, ?_⟩
  cases q : evEs Γ ees s M with
  | ok p =>
    obtain ⟨x, M'⟩ := p
    rw [q] at h
    exact fun b H1 Z1 f1 st rm1 rp => go b H1 x Z1 f1 M' st rm1 (rs.mono st.z st.pre) rp (evEs_len _ q) (Post.step st h)
  | exn x s m => rw [q] at h; exact h
  | stuck => rw [q] at h; exact h
theorem rd.argsL {σ : L2.St} {Z H : Hp} {f : List Addr} {M : Store} {s : Env} {k : List TN.W × Store → R (List TN.W × Store)} {Q : VK} {Q1 : List V → Hp → Prop} (rm : RelM X.K H Z f M) (rs : RelS X.K Z f σ s)
    (h : PostL (sx X XR W) σ Z f H ((evEs Γ ees s M).bind k) Q)
    (go : ∀ b H1 x Z1 f1 M1, Stp Z f H Z1 f1 H1 → RelM X.K H1 Z1 f1 M1 → RelS X.K Z1 f1 σ s → RepWs X.K Z1 f1 b x → x.length = ees.len → PostL (sx X XR W) σ Z1 f1 H1 (k (x, M1)) Q → Q1 b H1) : rdEs (sx X XR W) Γ ees σ H Q1 := by
  refine ⟨s, Z, f, M, rm, rs, ?_⟩
  cases q : evEs Γ ees s M with
  | ok p =>
    obtain ⟨x, M'⟩ := p
    rw [q] at h
    exact fun b H1 Z1 f1 st rm1 rp => go b H1 x Z1 f1 M' st rm1 (rs.mono st.z st.pre) rp (evEs_len _ q) (PostL.step st h)
  | exn x s m => rw [q] at h; exact h
  | stuck => rw [q] at h; exact h
theorem ge_tup {j : Nat} (hl : decide (ees.len ≤ 1000) = true) (hes : PA X es (rdEs (sx X XR W) Γ ees)) : PE X (.Tuple es j pos) (rdE (sx X XR W) Γ (.tup ees)) := by
  refine (pe_tup hes).weak fun σ H Q ⟨s, Z, f, M, rm, rs, h⟩ => ?_
  simp only [evE] at h
  refine rd.args rm rs h fun vs H1 ws Z1 f1 M1 st1 rm1 rs1 rp1 hn h => ?_
  obtain ⟨ds, e, h⟩ := Post.of h
  refine ⟨?_, fun p hp => ?_⟩
  · have := of_decide_eq_true hl
    have e2 := line_eq
    rw [rp1.length, hn, ← e2]
    unfold line
    omega
  · obtain ⟨x, y⟩ := rm1.frz hp (.tup vs)
    exact h (.ref p) _ _ _ y x (.d (.tup upd_self_sqt ((rp1.ds e).mono (same_upd (rm1.zn hp)))))
/-! new lists -/
theorem ge_frz {l : L} (h : PE X e (rdL (sx X XR W) Γ l)) : PE X e (rdE (sx X XR W) Γ (.frz l)) := by
  refine h.weak fun σ H Q ⟨s, Z, f, M, rm, rs, h⟩ => ⟨s, Z, f, M, rm, rs, ?_⟩
  simp only [evE] at h
  cases q : evL Γ l s M with
  | ok p =>
    rw [q] at h
    obtain ⟨ws, M'⟩ := p
    obtain ⟨ds, e, h⟩ := Post.of h
    intro a vs H' Z' f' st rm' e1 e2 e3 e4 r
    exact h (.ref a) H' _ f' (st.freeze e2 e3) (rm'.freeze e1 e3 e4) (.d (.lst upd_same ((r.ds e).mono (same_upd e3))))
  | exn x s m => rw [q] at h; exact h
  | stuck => rw [q] at h; exact h
theorem ge_cel {l : L} (h : PE X e (rdL (sx X XR W) Γ l)) : PE X e (rdE (sx X XR W) Γ (.cel l)) := by
  refine h.weak fun σ H Q ⟨s, Z, f, M, rm, rs, h⟩ => ⟨s, Z, f, M, rm, rs, ?_⟩
  simp only [evE] at h
  cases q : evL Γ l s M with
  | ok p =>
    rw [q] at h
    obtain ⟨ws, M'⟩ := p
    intro a vs H' Z' f' st rm' e1 e2 e3 e4 r
    refine h (.ref a) H' Z' (f' ++ [a]) (st.track e2) (rm'.track e1 e3 e4 ⟨vs, e1, r.mono (Same.refl _) (List.prefix_append _ _)⟩) (.r ?_)
    show (f' ++ [a])[M'.length]? = some a
    rw [← rm'.len, List.getElem?_append_right (Nat.le_refl _)]
    simp
  | exn x s m => rw [q] at h; exact h
  | stuck => rw [q] at h; exact h
theorem ge_dnew : PE X (.Dict [] [] pos) (rdE (sx X XR W) Γ (.dcel (.disp .nil .nil))) := by
  refine pe_dnewK.weak fun σ H Q ⟨s, Z, f, M, rm, rs, h⟩ p hp => ?_
  simp only [evE, evDc, evEs, R.bind_ok, kysOf, R.of_some, dputs] at h
  obtain ⟨x, y⟩ := rm.cel (f := f) (M := M) (o := .dK []) (c := .dct [] []) hp ⟨[], upd_same, rfl, .nil⟩
  refine h (.ref p) _ _ _ y x (.r ?_)
  show (f ++ [p])[M.length]? = some p
  rw [← rm.len, List.getElem?_append_right (Nat.le_refl _)]
  simp
theorem gl_disp (hl : decide (ees.len ≤ 1000) = true) (hes : PA X es (rdEs (sx X XR W) Γ ees)) : PE X (.List es pos) (rdL (sx X XR W) Γ (.disp ees)) := by
  refine (pe_lst hes).weak fun σ H Q ⟨s, Z, f, M, rm, rs, h⟩ => ⟨s, Z, f, M, rm, rs, ?_⟩
  simp only [evL] at h
  cases q : evEs Γ ees s M with
  | ok p =>
    rw [q] at h
    obtain ⟨ws, M'⟩ := p
    intro vs H1 Z1 f1 st rm1 rp
    have hn := evEs_len _ q
    refine ⟨?_, fun p hp => ?_⟩
    · have := of_decide_eq_true hl
      have e2 := line_eq
      rw [rp.length, hn, ← e2]
      unfold line
      omega
    · exact AnsL.new (AnsL.step h st) rm1 hp rp
  | exn x s m => rw [q] at h; exact h
  | stuck => rw [q] at h; exact h
theorem gl_cat (ha : PE X a (rdE (sx X XR W) Γ ea)) (hb : PE X b (rdE (sx X XR W) Γ eb)) : PE X (.BinOp a .Add b pos) (rdL (sx X XR W) Γ (.cat ea eb)) := by
  refine (pe_op op_cat ha hb).weak fun σ H Q ⟨s, Z, f, M, rm, rs, h⟩ => ?_
  simp only [evL] at h
  refine rd.fstL rm rs h fun v1 H1 x Z1 f1 M1 st1 rm1 rs1 rp1 h => ?_
  refine rd.fstL rm1 rs1 h fun v2 H2 y Z2 f2 M2 st2 rm2 rs2 rp2 h => ?_
  obtain ⟨w, e, h⟩ := PostL.of h
  exact cat_ok rm2 (rp1.mono st2.z st2.pre) rp2 e h
/-! calls of built-ins -/
theorem callV {v : Value} {r : List V → Hp → VK → Prop} {x : PySem.Str} {p : Pos} {t : TA} (hT : (∃ n, v = .type n) ∨ ∃ n, v = .builtin n) (hc : CallR X v r) (hg : Gl X x) (hm : X.mg x = none) (hv : bootBuiltins x = some v) (hp : (e :: es).all plE = true) (ha : PA X (e :: es) t)
    (hn : x ≠ "__name__") (hdb : (x == ("__debug__" : PySem.Str)) = false) : PE X (.Call (.Name x p) (e :: es) [] pos) (tCB r t) := by
  rw [List.all_cons, Bool.and_eq_true] at hp
  rcases hT with ⟨n, rfl⟩ | ⟨n, rfl⟩
  · exact pe_callTy hc hg hm hv ha hn hdb (star_cons hp.1) (star_any hp.2)
  · exact pe_callB hc hg hm hv ha hn hdb (star_cons hp.1) (star_any hp.2)
theorem biKind (b : Bi) : (∃ n, biVal b = .type n) ∨ ∃ n, biVal b = .builtin n := by
  cases b <;> first | exact .inl ⟨_, rfl⟩ | exact .inr ⟨_, rfl⟩
theorem lbKind (b : Lb) : (∃ n, lbVal b = .type n) ∨ ∃ n, lbVal b = .builtin n := by
  cases b <;> first | exact .inl ⟨_, rfl⟩ | exact .inr ⟨_, rfl⟩
theorem biPlain (b : Bi) : biName b ≠ "__name__" ∧ (biName b == ("__debug__" : PySem.Str)) = false := by cases b <;> decide +kernel
theorem lbPlain (b : Lb) : lbName b ≠ "__name__" ∧ (lbName b == ("__debug__" : PySem.Str)) = false := by cases b <;> decide +kernel
theorem ge_bi {bi : Bi} {p : Pos} (hcalm : X.calm = true) (hb : biOk bi = true) (hg : Gl X (biName bi)) (hm : X.mg (biName bi) = none) (hp : (e :: es).all plE = true) (hes : PA X (e :: es) (rdEs (sx X XR W) Γ ees)) :
    PE X (.Call (.Name (biName bi) p) (e :: es) [] pos) (rdE (sx X XR W) Γ (.bi bi ees)) := by
  obtain ⟨r, hr, hk⟩ := bi_ok hcalm bi hb
  refine (callV (biKind bi) hr hg hm (biBoot bi) hp hes (biPlain bi).1 (biPlain bi).2).weak fun σ H Q ⟨s, Z, f, M, rm, rs, h⟩ => ?_
  simp only [evE] at h
  refine rd.fst rm rs h fun v1 H1 x Z1 f1 M1 st1 rm1 rs1 rp1 h => ?_
  obtain ⟨w, e, h⟩ := Post.of h
  exact hk rm1 rp1 e h
theorem gl_bi {lb : Lb} {p : Pos} (hcalm : X.calm = true) (hg : Gl X (lbName lb)) (hm : X.mg (lbName lb) = none) (hp : (e :: es).all plE = true) (hes : PA X (e :: es) (rdEs (sx X XR W) Γ ees)) :
    PE X (.Call (.Name (lbName lb) p) (e :: es) [] pos) (rdL (sx X XR W) Γ (.bi lb ees)) := by
  obtain ⟨r, hr, hk⟩ := lb_ok (X := X) hcalm lb
  refine (callV (lbKind lb) hr hg hm (lbBoot lb) hp hes (lbPlain lb).1 (lbPlain lb).2).weak fun σ H Q ⟨s, Z, f, M, rm, rs, h⟩ => ?_
  simp only [evL] at h
  refine rd.fstL rm rs h fun v1 H1 x Z1 f1 M1 st1 rm1 rs1 rp1 h => ?_
  obtain ⟨w, e, h⟩ := PostL.of h
  exact hk rm1 rp1 e h
theorem tyBoot (t : Ty) : bootBuiltins (tyName t : PySem.Str) = some (.type (tyName t)) ∧ (tyName t : PySem.Str) ≠ "__name__" ∧ ((tyName t : PySem.Str) == ("__debug__" : PySem.Str)) = false := by cases t <;> decide +kernel
theorem isiBoot : bootBuiltins ("isinstance" : PySem.Str) = some (.builtin "isinstance") ∧ ("isinstance" : PySem.Str) ≠ "__name__" ∧ (("isinstance" : PySem.Str) == ("__debug__" : PySem.Str)) = false := by decide +kernel
theorem ge_isi {t : Ty} {p p2 : Pos} (hg : Gl X ("isinstance" : PySem.Str)) (hm : X.mg ("isinstance" : PySem.Str) = none) (hg2 : Gl X (tyName t : PySem.Str)) (hm2 : X.mg (tyName t : PySem.Str) = none) (hp : plE a = true) (ha : PE X a (rdE (sx X XR W) Γ ea)) :
    PE X (.Call (.Name ("isinstance" : PySem.Str) p) [a, .Name (tyName t : PySem.Str) p2] [] pos) (rdE (sx X XR W) Γ (.isi ea t)) := by
  have hT : PE X (.Name (tyName t : PySem.Str) p2) (tC (.ty (tyName t))) := pe_bltn hg2 hm2 (tyBoot t).1 rfl (tyBoot t).2.1 (tyBoot t).2.2
  refine (callV (.inr ⟨_, rfl⟩) call_isi hg hm isiBoot.1 (by rw [List.all_cons, hp]; rfl) (pa_cons ha (pa_cons hT pa_nil rfl) (star_cons hp)) isiBoot.2.1 isiBoot.2.2).weak fun σ H Q ⟨s, Z, f, M, rm, rs, h⟩ => ?_
  simp only [evE] at h
  refine rd.fst rm rs h fun v1 H1 x Z1 f1 M1 st1 rm1 rs1 rp1 h => ?_
  obtain ⟨k, e, h⟩ := Post.of h
  exact isi_ok t rm1 rp1 e h
/-! operators -/
theorem ge_bin {o : Bop} (ha : PE X a (rdE (sx X XR W) Γ ea)) (hb : PE X b (rdE (sx X XR W) Γ eb)) : PE X (.BinOp a (pyB o) b pos) (rdE (sx X XR W) Γ (.bin o ea eb)) := by
  obtain ⟨r, hr, hk⟩ := bin_ok (X := X) o
  refine (pe_op hr ha hb).weak fun σ H Q ⟨s, Z, f, M, rm, rs, h⟩ => ?_
  simp only [evE] at h
  refine rd.fst rm rs h fun v1 H1 x Z1 f1 M1 st1 rm1 rs1 rp1 h => ?_
  refine rd.fst rm1 rs1 h fun v2 H2 y Z2 f2 M2 st2 rm2 rs2 rp2 h => ?_
  obtain ⟨w, e, h⟩ := Post.of h
  exact hk rm2 (rp1.mono st2.z st2.pre) rp2 e h
theorem ge_cmp {o : Cop} (hu : X.A.units + 200 < cLine) (ha : PE X a (rdE (sx X XR W) Γ ea)) (hb : PE X b (rdE (sx X XR W) Γ eb)) (hm : behindInMarks (pyC o) b = false) : PE X (.Compare a [pyC o] [b] pos) (rdE (sx X XR W) Γ (.cmp o ea eb)) := by
  obtain ⟨r, hr, hk⟩ := cmp_ok (X := X) hu o
  refine (pe_cmpR hr ha hb hm).weak fun σ H Q ⟨s, Z, f, M, rm, rs, h⟩ => ?_
  simp only [evE] at h
  refine rd.fst rm rs h fun v1 H1 x Z1 f1 M1 st1 rm1 rs1 rp1 h => ?_
  refine rd.fst rm1 rs1 h fun v2 H2 y Z2 f2 M2 st2 rm2 rs2 rp2 h => ?_
  obtain ⟨k, e, h⟩ := Post.of h
  exact hk rm2 (rp1.mono st2.z st2.pre) rp2 e (h (.bl k) H2 Z2 f2 Stp.refl rm2 (.d (.bl k)))
theorem R.bind_assoc {α β γ : Type} (r : R α) (k : α → R β) (l : β → R γ) : (r.bind k).bind l = r.bind fun x => (k x).bind l := by cases r <;> rfl
theorem gt_cmp {o : Cop} (hu : X.A.units + 200 < cLine) (ha : PE X a (rdE (sx X XR W) Γ ea)) (hb : PE X b (rdE (sx X XR W) Γ eb)) (hm : behindInMarks (pyC o) b = false) : PT X (.Compare a [pyC o] [b] pos) (rdT (sx X XR W) Γ (.cmp o ea eb)) := by
  obtain ⟨r, hr, hk⟩ := cmp_ok (X := X) hu o
  refine (pt_cmpR hr ha hb hm).weak fun σ H Q ⟨s, Z, f, M, rm, rs, h⟩ => ?_
  simp only [evTest, evE, R.bind_assoc] at h
  refine rd.fst rm rs h fun v1 H1 x Z1 f1 M1 st1 rm1 rs1 rp1 h => ?_
  refine rd.fst rm1 rs1 h fun v2 H2 y Z2 f2 M2 st2 rm2 rs2 rp2 h => ?_
  obtain ⟨k, e, h⟩ := Post.of h
  exact hk rm2 (rp1.mono st2.z st2.pre) rp2 e ⟨k, rfl, h k H2 Z2 f2 Stp.refl rm2 rfl⟩
theorem ge_cmp2 {o p : Cop} (hu : X.A.units + 200 < cLine) (ha : PE X a (rdE (sx X XR W) Γ ea)) (hb : PE X b (rdE (sx X XR W) Γ eb)) (hc : PE X c (rdE (sx X XR W) Γ ec)) (hm : lastMarks [pyC o, pyC p] [b, c] = false) :
    PE X (.Compare a [pyC o, pyC p] [b, c] pos) (rdE (sx X XR W) Γ (.cmp2 o p ea eb ec)) := by
  obtain ⟨r, hr, hk⟩ := cmp_ok (X := X) hu o
  obtain ⟨r', hr', hk'⟩ := cmp_ok (X := X) hu p
  refine (pe_chain hr hr' ha hb hc hm).weak fun σ H Q ⟨s, Z, f, M, rm, rs, h⟩ => ?_
  simp only [evE] at h
  refine rd.fst rm rs h fun v1 H1 x Z1 f1 M1 st1 rm1 rs1 rp1 h => ?_
  refine rd.fst rm1 rs1 h fun v2 H2 y Z2 f2 M2 st2 rm2 rs2 rp2 h => ?_
  obtain ⟨k, e, h⟩ := Post.of h
  refine hk rm2 (rp1.mono st2.z st2.pre) rp2 e ⟨k, rfl, ?_⟩
  cases k with
  | false => exact h (.bl false) H2 Z2 f2 Stp.refl rm2 (.d (.bl false))
  | true =>
    simp only [if_true] at h
    refine rd.fst rm2 rs2 h fun v3 H3 z Z3 f3 M3 st3 rm3 rs3 rp3 h => ?_
    obtain ⟨k, e, h⟩ := Post.of h
    exact hk' rm3 (rp2.mono st3.z st3.pre) rp3 e (h (.bl k) H3 Z3 f3 Stp.refl rm3 (.d (.bl k)))
theorem gt_cmp2 {o p : Cop} (hu : X.A.units + 200 < cLine) (ha : PE X a (rdE (sx X XR W) Γ ea)) (hb : PE X b (rdE (sx X XR W) Γ eb)) (hc : PE X c (rdE (sx X XR W) Γ ec)) (hm : lastMarks [pyC o, pyC p] [b, c] = false) :
    PT X (.Compare a [pyC o, pyC p] [b, c] pos) (rdT (sx X XR W) Γ (.cmp2 o p ea eb ec)) := by
  obtain ⟨r, hr, hk⟩ := cmp_ok (X := X) hu o
  obtain ⟨r', hr', hk'⟩ := cmp_ok (X := X) hu p
  refine (pt_chain hr hr' ha hb hc hm).weak fun σ H Q ⟨s, Z, f, M, rm, rs, h⟩ => ?_
  simp only [evTest, evE, R.bind_assoc] at h
  refine rd.fst rm rs h fun v1 H1 x Z1 f1 M1 st1 rm1 rs1 rp1 h => ?_
  refine rd.fst rm1 rs1 h fun v2 H2 y Z2 f2 M2 st2 rm2 rs2 rp2 h => ?_
  obtain ⟨k, e, h⟩ := Post.of h
  refine hk rm2 (rp1.mono st2.z st2.pre) rp2 e ⟨k, rfl, ?_⟩
  cases k with
  | false => exact ⟨false, rfl, h false H2 Z2 f2 Stp.refl rm2 rfl⟩
  | true =>
    simp only [if_true, R.bind_assoc] at h
    refine rd.fst rm2 rs2 h fun v3 H3 z Z3 f3 M3 st3 rm3 rs3 rp3 h => ?_
    obtain ⟨k, e, h⟩ := Post.of h
    exact hk' rm3 (rp2.mono st3.z st3.pre) rp3 e ⟨k, rfl, h k H3 Z3 f3 Stp.refl rm3 rfl⟩
theorem ge_neg (ha : PE X a (rdE (sx X XR W) Γ ea)) : PE X (.UnaryOp .USub a pos) (rdE (sx X XR W) Γ (.neg ea)) := by
  refine (pe_un un_neg ha).weak fun σ H Q ⟨s, Z, f, M, rm, rs, h⟩ => ?_
  simp only [evE] at h
  refine rd.fst rm rs h fun v1 H1 x Z1 f1 M1 st1 rm1 rs1 rp1 h => ?_
  simp only at h
  split at h
  · rename_i i
    cases rp1 with
    | d rp1 =>
      cases rp1
      exact ⟨i, rfl, h (.int (-i)) H1 Z1 f1 Stp.refl rm1 (.d (.int _))⟩
  · exact h.elim
theorem ge_inv (ha : PE X a (rdE (sx X XR W) Γ ea)) : PE X (.UnaryOp .Not a pos) (rdE (sx X XR W) Γ (.inv ea)) := by
  refine (pe_notT ha).weak fun σ H Q ⟨s, Z, f, M, rm, rs, h⟩ => ?_
  simp only [evE] at h
  refine rd.fst rm rs h fun v1 H1 x Z1 f1 M1 st1 rm1 rs1 rp1 h => ?_
  obtain ⟨k, e, h⟩ := Post.of h
  exact ⟨k, tru_sem rm1 rp1 e, h (.bl (!k)) H1 Z1 f1 Stp.refl rm1 (.d (.bl _))⟩
/-! tests -/
theorem gt_val (ha : PE X a (rdE (sx X XR W) Γ ea)) (he : ∀ whole, isTrue a X.env whole = (do let v ← whole; standAt a.pos; holding [v] (truthy v))) : PT X a (rdT (sx X XR W) Γ ea) := by
  refine (pt_truth ha he).weak fun σ H Q ⟨s, Z, f, M, rm, rs, h⟩ => ?_
  simp only [evTest] at h
  refine rd.fst rm rs h fun v1 H1 x Z1 f1 M1 st1 rm1 rs1 rp1 h => ?_
  obtain ⟨k, e, h⟩ := Post.of h
  exact ⟨k, tru_sem rm1 rp1 e, h k H1 Z1 f1 Stp.refl rm1 rfl⟩
def plT : Expr → Bool
  | .UnaryOp .Not _ _ => false
  | .BoolOp _ _ _ => false
  | .IfExp _ _ _ _ => false
  | .Compare _ _ _ _ => false
  | _ => true
theorem plT_ok {env : PySem.Env} (h : plT a = true) (whole : Sem Value) : isTrue a env whole = (do let v ← whole; standAt a.pos; holding [v] (truthy v)) := by
  cases a <;> first | rfl | cases h | skip
  rename_i op _ _
  cases op <;> first | rfl | cases h
/-- the truth of a value that has come -/
theorem test_of {σ : L2.St} {Z H : Hp} {f : List Addr} {M : Store} {s : Env} {γ δ : Type} {Rp' : Hp → Hp → List Addr → δ → γ → Prop} {k : Bool → TN.W → Store → R (γ × Store)} {Q : δ → Hp → Prop} {Q1 : Bool → Hp → Prop} (rm : RelM X.K H Z f M) (rs : RelS X.K Z f σ s)
    (h : Post (sx X XR W) Rp' σ Z f H ((evE Γ ea s M).bind fun (x, M) => (R.of (tru M x)).bind fun b => k b x M) Q)
    (go : ∀ b H1 x Z1 f1 M1, Stp Z f H Z1 f1 H1 → RelM X.K H1 Z1 f1 M1 → RelS X.K Z1 f1 σ s → tru M1 x = some b → Post (sx X XR W) Rp' σ Z1 f1 H1 (k b x M1) Q → Q1 b H1) : rdT (sx X XR W) Γ ea σ H Q1 := by
  refine ⟨s, Z, f, M, rm, rs, ?_⟩
  simp only [evTest]
  cases q : evE Γ ea s M with
  | ok p =>
    obtain ⟨x, M'⟩ := p
    rw [q] at h
    simp only [R.bind_ok] at h ⊢
    obtain ⟨b, e, h⟩ := Post.of h
    rw [e]
    intro b' H1 Z1 f1 st rm1 eb
    have eb : b' = b := eb
    subst eb
    exact go b' H1 x Z1 f1 M' st rm1 (rs.mono st.z st.pre) e (Post.step st h)
  | exn x s m => rw [q] at h; exact h
  | stuck => rw [q] at h; exact h
theorem gt_inv (ha : PT X a (rdT (sx X XR W) Γ ea)) : PT X (.UnaryOp .Not a pos) (rdT (sx X XR W) Γ (.inv ea)) := by
  refine (pt_not ha).weak fun σ H Q ⟨s, Z, f, M, rm, rs, h⟩ => ?_
  simp only [evTest, evE, R.bind_assoc] at h
  refine test_of (k := fun b x M => (R.ok (TN.W.d (.bl (!b)), M)).bind fun (x, M) => (R.of (tru M x)).bind fun b => .ok (b, M)) rm rs h fun b H1 x Z1 f1 M1 st1 rm1 rs1 e h => ?_
  exact h (!b) H1 Z1 f1 Stp.refl rm1 rfl
theorem ge_ifx (hc : PT X c (rdT (sx X XR W) Γ ec)) (ha : PE X a (rdE (sx X XR W) Γ ea)) (hb : PE X b (rdE (sx X XR W) Γ eb)) : PE X (.IfExp c a b pos) (rdE (sx X XR W) Γ (.ifx ec ea eb)) := by
  refine (pe_ifExp hc ha hb).weak fun σ H Q ⟨s, Z, f, M, rm, rs, h⟩ => ?_
  simp only [evE] at h
  refine test_of (k := fun t x M => if t then evE Γ ea s M else evE Γ eb s M) rm rs h fun t H1 x Z1 f1 M1 st1 rm1 rs1 e h => ?_
  cases t with
  | true => exact ⟨s, Z1, f1, M1, rm1, rs1, h⟩
  | false => exact ⟨s, Z1, f1, M1, rm1, rs1, h⟩
theorem ge_one {op : PySem.BoolOp} (ha : PE X a (rdE (sx X XR W) Γ ea)) : PE X (.BoolOp op [a] pos) (rdE (sx X XR W) Γ ea) := pe_one ha
theorem evAnd_one (s : Env) (M : Store) : evAnd Γ (.cons ea .nil) s M = evE Γ ea s M := by simp only [evAnd]
theorem evOr_one (s : Env) (M : Store) : evOr Γ (.cons ea .nil) s M = evE Γ ea s M := by simp only [evOr]
theorem evAnd_two (s : Env) (M : Store) : evAnd Γ (.cons ea (.cons eb ees)) s M = (evE Γ ea s M).bind fun (x, M) => (R.of (tru M x)).bind fun b => if b then evAnd Γ (.cons eb ees) s M else .ok (x, M) := by simp only [evAnd]
theorem evOr_two (s : Env) (M : Store) : evOr Γ (.cons ea (.cons eb ees)) s M = (evE Γ ea s M).bind fun (x, M) => (R.of (tru M x)).bind fun b => if b then .ok (x, M) else evOr Γ (.cons eb ees) s M := by simp only [evOr]
theorem ge_and1 (ha : PE X a (rdE (sx X XR W) Γ ea)) : PE X (.BoolOp .And [a] pos) (rdE (sx X XR W) Γ (.and (.cons ea .nil))) := by
  refine (pe_one ha).weak fun σ H Q ⟨s, Z, f, M, rm, rs, h⟩ => ⟨s, Z, f, M, rm, rs, ?_⟩
  simpa only [evE, evAnd_one] using h
theorem ge_or1 (ha : PE X a (rdE (sx X XR W) Γ ea)) : PE X (.BoolOp .Or [a] pos) (rdE (sx X XR W) Γ (.or (.cons ea .nil))) := by
  refine (pe_one ha).weak fun σ H Q ⟨s, Z, f, M, rm, rs, h⟩ => ⟨s, Z, f, M, rm, rs, ?_⟩
  simpa only [evE, evOr_one] using h
theorem ge_and {r : List Expr} (ha : PE X a (rdE (sx X XR W) Γ ea)) (hb : PE X (.BoolOp .And (b :: r) pos) (rdE (sx X XR W) Γ (.and (.cons eb ees)))) : PE X (.BoolOp .And (a :: b :: r) pos) (rdE (sx X XR W) Γ (.and (.cons ea (.cons eb ees)))) := by
  refine (pe_andT ha hb).weak fun σ H Q ⟨s, Z, f, M, rm, rs, h⟩ => ?_
  simp only [evE, evAnd_two] at h
  refine rd.fst rm rs h fun v1 H1 x Z1 f1 M1 st1 rm1 rs1 rp1 h => ?_
  obtain ⟨k, e, h⟩ := Post.of h
  refine ⟨k, tru_sem rm1 rp1 e, ?_⟩
  cases k with
  | true => exact ⟨s, Z1, f1, M1, rm1, rs1, by simpa only [evE, if_true] using h⟩
  | false => exact h v1 H1 Z1 f1 Stp.refl rm1 rp1
theorem ge_or {r : List Expr} (ha : PE X a (rdE (sx X XR W) Γ ea)) (hb : PE X (.BoolOp .Or (b :: r) pos) (rdE (sx X XR W) Γ (.or (.cons eb ees)))) : PE X (.BoolOp .Or (a :: b :: r) pos) (rdE (sx X XR W) Γ (.or (.cons ea (.cons eb ees)))) := by
  refine (pe_orT ha hb).weak fun σ H Q ⟨s, Z, f, M, rm, rs, h⟩ => ?_
  simp only [evE, evOr_two] at h
  refine rd.fst rm rs h fun v1 H1 x Z1 f1 M1 st1 rm1 rs1 rp1 h => ?_
  obtain ⟨k, e, h⟩ := Post.of h
  refine ⟨k, tru_sem rm1 rp1 e, ?_⟩
  cases k with
  | true => exact h v1 H1 Z1 f1 Stp.refl rm1 rp1
  | false => exact ⟨s, Z1, f1, M1, rm1, rs1, by simpa only [evE, Bool.false_eq_true, if_false] using h⟩
theorem gt_and1 (ha : PT X a (rdT (sx X XR W) Γ ea)) : PW X (.BoolOp .And [a] pos) (rdT (sx X XR W) Γ (.and (.cons ea .nil))) := by
  refine (pw_and1 ha).weak fun σ H Q ⟨s, Z, f, M, rm, rs, h⟩ => ⟨s, Z, f, M, rm, rs, ?_⟩
  simpa only [evTest, evE, evAnd_one] using h
theorem gt_or1 (ha : PT X a (rdT (sx X XR W) Γ ea)) : PW X (.BoolOp .Or [a] pos) (rdT (sx X XR W) Γ (.or (.cons ea .nil))) := by
  refine (pw_or1 ha).weak fun σ H Q ⟨s, Z, f, M, rm, rs, h⟩ => ⟨s, Z, f, M, rm, rs, ?_⟩
  simpa only [evTest, evE, evOr_one] using h
theorem gt_and {r : List Expr} (ha : PT X a (rdT (sx X XR W) Γ ea)) (hb : PW X (.BoolOp .And (b :: r) pos) (rdT (sx X XR W) Γ (.and (.cons eb ees)))) : PW X (.BoolOp .And (a :: b :: r) pos) (rdT (sx X XR W) Γ (.and (.cons ea (.cons eb ees)))) := by
  refine (pw_and ha hb).weak fun σ H Q ⟨s, Z, f, M, rm, rs, h⟩ => ?_
  simp only [evTest, evE, evAnd_two, R.bind_assoc] at h
  refine test_of (k := fun b x M => ((if b then evAnd Γ (.cons eb ees) s M else .ok (x, M)) : R (TN.W × Store)).bind fun (x, M) => (R.of (tru M x)).bind fun b => .ok (b, M)) rm rs h fun t H1 x Z1 f1 M1 st1 rm1 rs1 e h => ?_
  cases t with
  | true => exact ⟨s, Z1, f1, M1, rm1, rs1, by simpa only [evTest, evE, if_true] using h⟩
  | false =>
    simp only [Bool.false_eq_true, if_false, R.bind_ok, e, R.of_some] at h
    exact h false H1 Z1 f1 Stp.refl rm1 rfl
theorem gt_or {r : List Expr} (ha : PT X a (rdT (sx X XR W) Γ ea)) (hb : PW X (.BoolOp .Or (b :: r) pos) (rdT (sx X XR W) Γ (.or (.cons eb ees)))) : PW X (.BoolOp .Or (a :: b :: r) pos) (rdT (sx X XR W) Γ (.or (.cons ea (.cons eb ees)))) := by
  refine (pw_or ha hb).weak fun σ H Q ⟨s, Z, f, M, rm, rs, h⟩ => ?_
  simp only [evTest, evE, evOr_two, R.bind_assoc] at h
  refine test_of (k := fun b x M => ((if b then .ok (x, M) else evOr Γ (.cons eb ees) s M) : R (TN.W × Store)).bind fun (x, M) => (R.of (tru M x)).bind fun b => .ok (b, M)) rm rs h fun t H1 x Z1 f1 M1 st1 rm1 rs1 e h => ?_
  cases t with
  | false => exact ⟨s, Z1, f1, M1, rm1, rs1, by simpa only [evTest, evE, Bool.false_eq_true, if_false] using h⟩
  | true =>
    simp only [if_true, R.bind_ok, e, R.of_some] at h
    exact h true H1 Z1 f1 Stp.refl rm1 rfl
/-! subscripts -/
def plIx : Expr → Bool
  | .Slice _ _ _ _ => false
  | _ => true
theorem plIx_ok (h : plIx b = true) : PlainIx b := by
  intro o i
  cases b <;> first | rfl | cases h
theorem ge_idx (hu : X.A.units + 200 < cLine) (h : plIx b = true) (ha : PE X a (rdE (sx X XR W) Γ ea)) (hb : PE X b (rdE (sx X XR W) Γ eb)) : PE X (.Subscript a b pos) (rdE (sx X XR W) Γ (.idx ea eb)) := by
  obtain ⟨r, hr, hk⟩ := idx_ok (X := X) hu
  refine (pe_ix hr ha hb (plIx_ok h)).weak fun σ H Q ⟨s, Z, f, M, rm, rs, h⟩ => ?_
  simp only [evE] at h
  refine rd.fst rm rs h fun v1 H1 x Z1 f1 M1 st1 rm1 rs1 rp1 h => ?_
  refine rd.fst rm1 rs1 h fun v2 H2 y Z2 f2 M2 st2 rm2 rs2 rp2 h => ?_
  obtain ⟨w, e, h⟩ := Post.of h
  exact hk rm2 (rp1.mono st2.z st2.pre) rp2 e h
theorem cin_no {o : Option D} (h : conSem o = o) (x : TN.W) : cinSem o x = none := by
  cases o with
  | none => rfl
  | some d => cases d <;> first | rfl | cases h
theorem cix_no {o : Option D} (h : conSem o = o) (x : TN.W) : cixSem o x = none := by
  cases o with
  | none => rfl
  | some d => cases d <;> first | rfl | cases h
theorem ge_cin0 {g : Nat} {c : Expr} (hc : conSem (Γ.con g) = Γ.con g) (ha : PE X a (rdE (sx X XR W) Γ ea)) (hmk : behindInMarks .In c = false) : PE X (.Compare a [.In] [c] pos) (rdE (sx X XR W) Γ (.cin g ea)) := by
  refine (pe_cmpR (r := fun _ _ _ _ => False) (fun _ _ _ _ _ _ _ _ _ _ _ _ h => h.elim) ha (⟨fun _ _ _ _ _ _ h => h.elim⟩ : PE X c fun _ _ _ => False) hmk).weak fun σ H Q ⟨s, Z, f, M, rm, rs, h⟩ => ?_
  simp only [evE] at h
  refine rd.fst rm rs h fun v1 H1 y Z1 f1 M1 st1 rm1 rs1 rp1 h => ?_
  obtain ⟨k, e, h⟩ := Post.of h
  rw [cin_no hc] at e
  cases e
theorem gt_cin0 {g : Nat} {c : Expr} (hc : conSem (Γ.con g) = Γ.con g) (ha : PE X a (rdE (sx X XR W) Γ ea)) (hmk : behindInMarks .In c = false) : PT X (.Compare a [.In] [c] pos) (rdT (sx X XR W) Γ (.cin g ea)) := by
  refine (pt_cmpR (r := fun _ _ _ _ => False) (fun _ _ _ _ _ _ _ _ _ _ _ _ h => h.elim) ha (⟨fun _ _ _ _ _ _ h => h.elim⟩ : PE X c fun _ _ _ => False) hmk).weak fun σ H Q ⟨s, Z, f, M, rm, rs, h⟩ => ?_
  simp only [evTest, evE, R.bind_assoc] at h
  refine rd.fst rm rs h fun v1 H1 y Z1 f1 M1 st1 rm1 rs1 rp1 h => ?_
  obtain ⟨k, e, h⟩ := Post.of h
  rw [cin_no hc] at e
  cases e
theorem ge_cidx0 {g : Nat} {e : Expr} {ec : E} (hc : isDct (Γ.con g) = false) : PE X e (rdE (sx X XR W) Γ (.cidx g ec)) := ⟨fun pins s σ H Q I h => by
  obtain ⟨s, Z, f, M, rm, rs, h⟩ := h
  simp only [evE, hc, Bool.false_eq_true, if_false] at h
  exact h.elim⟩
theorem ge_cin {g : Nat} {x : PySem.Str} {q : Pos} {b : Addr} {ks : List Tx} {is : List Int} (hg : Gl X x) (hm : X.mg x = some (.ref b)) (hd : (x == ("__debug__" : PySem.Str)) = false) (hc : Γ.con g = some (.dct (ks.map Ky.s) (is.map D.int)))
    (kd : ∃ es n, KDict X.K X.w b es n) (no : ∀ t, t ∉ ks → PySem.W.nsIn X.K b (toS t) = some none) (has : ∀ t, t ∈ ks → ∃ u, PySem.W.nsIn X.K b (toS t) = some (some u)) (ha : PE X a (rdE (sx X XR W) Γ ea)) (hmk : behindInMarks .In (.Name x q) = false) : PE X (.Compare a [.In] [.Name x q] pos) (rdE (sx X XR W) Γ (.cin g ea)) := by
  obtain ⟨es, n, D1⟩ := kd
  refine (pe_cmpR (op_in_kd D1) ha (pe_glob (pos := q) (v := .ref b) hg hm rfl hd) hmk).weak fun σ H Q ⟨s, Z, f, M, rm, rs, h⟩ => ?_
  simp only [evE] at h
  refine rd.fst rm rs h fun v1 H1 y Z1 f1 M1 st1 rm1 rs1 rp1 h => ?_
  obtain ⟨k, e, h⟩ := Post.of h
  rw [hc] at e
  cases rp1 with
  | r _ => simp [cinSem] at e
  | d rp =>
    cases rp with
    | str t =>
      simp only [cinSem, Option.some.injEq] at e
      subst e
      by_cases ht : t ∈ ks
      · obtain ⟨u, hu⟩ := has t ht
        refine ⟨toS t, some u, rfl, rfl, hu, ?_⟩
        have := h (.bl (decide (Ky.s t ∈ ks.map Ky.s))) H1 Z1 f1 Stp.refl rm1 (.d (.bl _))
        rw [decide_eq_true (List.mem_map.mpr ⟨t, ht, rfl⟩)] at this
        exact this
      · refine ⟨toS t, none, rfl, rfl, no t ht, ?_⟩
        have := h (.bl (decide (Ky.s t ∈ ks.map Ky.s))) H1 Z1 f1 Stp.refl rm1 (.d (.bl _))
        rw [decide_eq_false (fun c => ht (by
          obtain ⟨z, hz, e⟩ := List.mem_map.mp c
          cases e
          exact hz))] at this
        exact this
    | _ => simp [cinSem] at e
theorem gt_cin {g : Nat} {x : PySem.Str} {q : Pos} {b : Addr} {ks : List Tx} {is : List Int} (hg : Gl X x) (hm : X.mg x = some (.ref b)) (hd : (x == ("__debug__" : PySem.Str)) = false) (hc : Γ.con g = some (.dct (ks.map Ky.s) (is.map D.int)))
    (kd : ∃ es n, KDict X.K X.w b es n) (no : ∀ t, t ∉ ks → PySem.W.nsIn X.K b (toS t) = some none) (has : ∀ t, t ∈ ks → ∃ u, PySem.W.nsIn X.K b (toS t) = some (some u)) (ha : PE X a (rdE (sx X XR W) Γ ea)) (hmk : behindInMarks .In (.Name x q) = false) : PT X (.Compare a [.In] [.Name x q] pos) (rdT (sx X XR W) Γ (.cin g ea)) := by
  obtain ⟨es, n, D1⟩ := kd
  refine (pt_cmpR (op_in_kd D1) ha (pe_glob (pos := q) (v := .ref b) hg hm rfl hd) hmk).weak fun σ H Q ⟨s, Z, f, M, rm, rs, h⟩ => ?_
  simp only [evTest, evE, R.bind_assoc] at h
  refine rd.fst rm rs h fun v1 H1 y Z1 f1 M1 st1 rm1 rs1 rp1 h => ?_
  obtain ⟨k, e, h⟩ := Post.of h
  rw [hc] at e
  cases rp1 with
  | r _ => simp [cinSem] at e
  | d rp =>
    cases rp with
    | str t =>
      simp only [cinSem, Option.some.injEq] at e
      subst e
      have h2 := h (decide (Ky.s t ∈ ks.map Ky.s)) H1 Z1 f1 Stp.refl rm1 rfl
      by_cases ht : t ∈ ks
      · obtain ⟨u, hu⟩ := has t ht
        rw [decide_eq_true (List.mem_map.mpr ⟨t, ht, rfl⟩)] at h2
        exact ⟨toS t, some u, rfl, rfl, hu, _, rfl, h2⟩
      · rw [decide_eq_false (fun c => ht (by
          obtain ⟨z, hz, e⟩ := List.mem_map.mp c
          cases e
          exact hz))] at h2
        exact ⟨toS t, none, rfl, rfl, no t ht, _, rfl, h2⟩
    | _ => simp [cinSem] at e
theorem ge_cidx {g : Nat} {x : PySem.Str} {q : Pos} {b : Addr} {ks : List Tx} {is : List Int} {c : Expr} {ec : E} (hg : Gl X x) (hm : X.mg x = some (.ref b)) (hd : (x == ("__debug__" : PySem.Str)) = false) (hc : Γ.con g = some (.dct (ks.map Ky.s) (is.map D.int)))
    (kd : ∃ es n, KDict X.K X.w b es n) (at_ : ∀ t i, dget (Ky.s t) (ks.map Ky.s) (is.map D.int) = some (.int i) → ∃ tk, PySem.W.nsIn X.K b (toS t) = some (some (.int i tk))) (h : plIx c = true) (ha : PE X c (rdE (sx X XR W) Γ ec)) : PE X (.Subscript (.Name x q) c pos) (rdE (sx X XR W) Γ (.cidx g ec)) := by
  obtain ⟨es, n, D1⟩ := kd
  refine (pe_ix ix_kdict (pe_glob (pos := q) (v := .ref b) hg hm rfl hd) ha (plIx_ok h)).weak fun σ H Q ⟨s, Z, f, M, rm, rs, h⟩ => ?_
  have hd2 : isDct (Γ.con g) = true := by rw [hc]; rfl
  simp only [evE, hd2, if_true] at h
  refine rd.fst rm rs h fun v1 H1 y Z1 f1 M1 st1 rm1 rs1 rp1 h => ?_
  obtain ⟨w, e, h⟩ := Post.of h
  rw [hc] at e
  cases rp1 with
  | r _ => simp [cixSem] at e
  | d rp =>
    cases rp with
    | str t =>
      simp only [cixSem] at e
      cases hg2 : dget (Ky.s t) (ks.map Ky.s) (is.map D.int) with
      | none => rw [hg2] at e; cases e
      | some d =>
        rw [hg2] at e
        cases d with
        | int i =>
          simp only [Option.bind_some, Option.some.injEq] at e
          subst e
          obtain ⟨tk, hu⟩ := at_ t i hg2
          exact ⟨b, toS t, .int i, rfl, rfl, ⟨es, n, _, D1.at_, D1.lit, hu, ⟨tk, rfl⟩⟩, h (.int i) H1 Z1 f1 Stp.refl rm1 (.d (.int i))⟩
        | _ => cases e
    | _ => simp [cixSem] at e
theorem ge_rev {k : Nat} {p1 p2 p3 : Pos} (ha : PE X a (rdE (sx X XR W) Γ ea)) : PE X (.Subscript a (.Slice none none (some (.UnaryOp .USub (.Constant (.int 1) k p1) p2)) p3) pos) (rdE (sx X XR W) Γ (.rev ea)) := by
  refine (pe_revT ha).weak fun σ H Q ⟨s, Z, f, M, rm, rs, h⟩ => ?_
  simp only [evE] at h
  refine rd.fst rm rs h fun v1 H1 x Z1 f1 M1 st1 rm1 rs1 rp1 h => ?_
  simp only at h
  split at h
  · rename_i ds
    cases rp1 with
    | d rp1 =>
      cases rp1 with
      | @tup a vs _ hs hr =>
        refine ⟨a, vs, rfl, sqt_mono rm1.sub hs, fun p hp => ?_⟩
        obtain ⟨x, y⟩ := rm1.frz hp (.tup vs.reverse)
        exact h (.ref p) _ _ _ y x (.d (.tup upd_self_sqt (hr.reverse.mono (same_upd (rm1.zn hp)))))
  · exact h.elim
abbrev RpO : Hp → Hp → List Addr → Option Int → Option Int → Prop := fun _ _ _ a b => a = b
def rdPo (S : Sx) (Γ : Ctx) (e : E) : TO := rd S RpO fun s M => partOf e.isNo (evE Γ e s M) M
theorem go_none : PO X none (rdPo (sx X XR W) Γ .no) := ⟨fun pins s σ H Q I h => po_none.run pins s σ H Q I (by
  obtain ⟨s, Z, f, M, rm, rs, h⟩ := h
  exact h none H Z f Stp.refl rm rfl)⟩
theorem go_some (hn : ea.isNo = false) (ha : PE X a (rdE (sx X XR W) Γ ea)) : PO X (some a) (rdPo (sx X XR W) Γ ea) := ⟨fun pins s σ H Q I h => (po_some ha).run pins s σ H Q I (by
  obtain ⟨s, Z, f, M, rm, rs, h⟩ := h
  simp only [partOf, hn, Bool.false_eq_true, if_false] at h
  refine rd.fst rm rs h fun v1 H1 x Z1 f1 M1 st1 rm1 rs1 rp1 h => ?_
  simp only at h
  split at h
  · rename_i i
    cases rp1 with
    | d rp1 =>
      cases rp1
      exact ⟨i, rfl, h (some i) H1 Z1 f1 Stp.refl rm1 rfl⟩
  · exact h.elim)⟩
theorem ge_sl {lo hi : Option Expr} {elo ehi : E} {p2 : Pos} (ha : PE X a (rdE (sx X XR W) Γ ea)) (hl : PO X lo (rdPo (sx X XR W) Γ elo)) (hh : PO X hi (rdPo (sx X XR W) Γ ehi)) : PE X (.Subscript a (.Slice lo hi none p2) pos) (rdE (sx X XR W) Γ (.sl ea elo ehi)) := by
  obtain ⟨r, hr, hk⟩ := sl_ok (X := X)
  refine (pe_slice hr ha hl hh).weak fun σ H Q ⟨s, Z, f, M, rm, rs, h⟩ => ?_
  simp only [evE] at h
  refine rd.fst rm rs h fun v1 H1 x Z1 f1 M1 st1 rm1 rs1 rp1 h => ?_
  refine rd.fst (Rp := RpO) (ev := fun s M => partOf elo.isNo (evE Γ elo s M) M) rm1 rs1 h fun l H2 l' Z2 f2 M2 st2 rm2 rs2 e2 h => ?_
  refine rd.fst (Rp := RpO) (ev := fun s M => partOf ehi.isNo (evE Γ ehi s M) M) rm2 rs2 h fun u H3 u' Z3 f3 M3 st3 rm3 rs3 e3 h => ?_
  cases (show l = l' from e2)
  cases (show u = u' from e3)
  obtain ⟨w, e, h⟩ := Post.of h
  exact hk rm3 ((rp1.mono st2.z st2.pre).mono st3.z st3.pre) e h
theorem gl_sl {lo hi : Option Expr} {elo ehi : E} {p2 : Pos} (ha : PE X a (rdE (sx X XR W) Γ ea)) (hl : PO X lo (rdPo (sx X XR W) Γ elo)) (hh : PO X hi (rdPo (sx X XR W) Γ ehi)) : PE X (.Subscript a (.Slice lo hi none p2) pos) (rdL (sx X XR W) Γ (.sl ea elo ehi)) := by
  refine (pe_slice sl_list ha hl hh).weak fun σ H Q ⟨s, Z, f, M, rm, rs, h⟩ => ?_
  simp only [evL] at h
  refine rd.fstL rm rs h fun v1 H1 x Z1 f1 M1 st1 rm1 rs1 rp1 h => ?_
  refine rd.fstL (Rp := RpO) (ev := fun s M => partOf elo.isNo (evE Γ elo s M) M) rm1 rs1 h fun l H2 l' Z2 f2 M2 st2 rm2 rs2 e2 h => ?_
  refine rd.fstL (Rp := RpO) (ev := fun s M => partOf ehi.isNo (evE Γ ehi s M) M) rm2 rs2 h fun u H3 u' Z3 f3 M3 st3 rm3 rs3 e3 h => ?_
  cases (show l = l' from e2)
  cases (show u = u' from e3)
  obtain ⟨w, e, h⟩ := PostL.of h
  exact slL_ok rm3 ((rp1.mono st2.z st2.pre).mono st3.z st3.pre) e h
/-! methods -/
theorem tyV_lst {Z H : Hp} {f : List Addr} {M : Store} {v : V} {n : Nat} (rm : RelM X.K H Z f M) (r : RepW X.K Z f v (.r n)) (h : (match M[n]? with | some (.lst _) => true | _ => false) = true) : tyV X.K "list" v H := by
  split at h
  · rename_i ws q
    cases r with
    | r hf =>
      obtain ⟨vs, h1, h2⟩ := rm.cell _ _ _ q hf
      exact .inl ⟨rfl, vs, .inl (.inl h1)⟩
  · cases h
theorem tyV_dctD {Z H : Hp} {f : List Addr} {M : Store} {v : V} {ks : List Ky} {ds : List D} (rm : RelM X.K H Z f M) (r : RepW X.K Z f v (.d (.dct ks ds))) : tyV X.K "dict" v H := by
  cases r with
  | d r =>
    cases r with
    | dct h1 h2 h3 => exact .inr (.inr (.inl ⟨rfl, .inl ⟨_, rm.sub _ _ h1⟩⟩))
theorem tyV_dctR {Z H : Hp} {f : List Addr} {M : Store} {v : V} {n : Nat} (rm : RelM X.K H Z f M) (r : RepW X.K Z f v (.r n)) (h : (match M[n]? with | some (.dct _ _) => true | _ => false) = true) : tyV X.K "dict" v H := by
  split at h
  · rename_i ks ws q
    cases r with
    | r hf =>
      obtain ⟨vs, h1, h2⟩ := rm.cell _ _ _ q hf
      exact .inr (.inr (.inl ⟨rfl, .inl ⟨_, h1⟩⟩))
  · cases h
theorem tyV_ok {Z H : Hp} {f : List Addr} {M : Store} {m : Mt} {v : V} {x : TN.W} (hm : mtOk m = true) (rm : RelM X.K H Z f M) (r : RepW X.K Z f v x) (h : mtRcv M m x = true) : tyV X.K (mtTy m) v H := by
  cases m with
  | append => cases x with
    | d _ => cases h
    | r n => exact tyV_lst rm r h
  | extend => cases x with
    | d _ => cases h
    | r n => exact tyV_lst rm r h
  | pop => cases x with
    | d _ => cases h
    | r n => exact tyV_lst rm r h
  | get => cases x with
    | r n => exact tyV_dctR rm r h
    | d x => cases x <;> first | exact tyV_dctD rm r | cases h
  | insert => cases x with
    | d _ => cases h
    | r n => exact tyV_lst rm r h
  | join => cases hm
  | startswith => cases x with
    | r n => cases h
    | d x => cases x with
      | str s =>
        cases r with
        | d r => cases r; exact rfl
      | _ => cases h
theorem star_few {env : PySem.Env} : ∀ {es : List Expr}, es.all plE = true → (backTo pos (starEach es env)).all (fun x => !x.1) = true
  | [], _ => rfl
  | e :: es, h => by
    rw [List.all_cons, Bool.and_eq_true] at h
    rw [star_cons h.1]
    have ih := star_few (env := env) h.2
    unfold backTo at ih ⊢
    rw [List.map_cons, List.all_cons, ih]
    rfl
theorem Post.ofL {σ : L2.St} {Z H : Hp} {f : List Addr} {o : Option (TN.W × Store)} {Q : VK} (h : Post (sx X XR W) (RpW (sx X XR W)) σ Z f H (R.of o) Q) : ∃ w M', o = some (w, M') ∧ Ans X.K Z f H M' w Q := by
  cases o with
  | none => exact h.elim
  | some p => obtain ⟨w, M'⟩ := p; exact ⟨w, M', rfl, h⟩
theorem ge_mth {m : Mt} {p : Pos} {o : Expr} {eo : E} (hu : X.A.units + 200 < cLine) (hm : mtOk m = true) (ho : PE X o (rdE (sx X XR W) Γ eo)) (hes : PA X es (rdEs (sx X XR W) Γ ees))
    (hbase : attributeBase o (mtName m) X.env (eval o X.env) = eval o X.env) (hline : (p.endLine == pos.line) = true) (hp : es.all plE = true) (hlen : decide (es.length < 20) = true) (hnil : es = [] → ees = .nil) :
    PE X (.Call (.Attribute o (mtName m) p) es [] pos) (rdE (sx X XR W) Γ (.mth m eo ees)) := by
  obtain ⟨r, hr, hk⟩ := mt_ok (X := X) hu m hm
  cases es with
  | nil =>
    have e := hnil rfl
    subst e
    refine (pe_bm0 (mtPlain m hm) (mtSlot m hm) (mtTyp m hm) hr ho hbase hline).weak fun σ H Q ⟨s, Z, f, M, rm, rs, h⟩ => ?_
    simp only [evE] at h
    refine rd.fst rm rs h fun v1 H1 x Z1 f1 M1 st1 rm1 rs1 rp1 h => ?_
    simp only at h
    split at h
    · rename_i hrc
      simp only [evEs, R.bind_ok] at h
      obtain ⟨w, M', e, h⟩ := Post.ofL h
      exact ⟨tyV_ok hm rm1 rp1 hrc, hk rm1 rp1 .nil e h⟩
    · exact h.elim
  | cons e es =>
    have hp' := hp
    rw [List.all_cons, Bool.and_eq_true] at hp'
    have hl := of_decide_eq_true hlen
    refine (pe_bm (mtPlain m hm) (mtSlot m hm) (mtTyp m hm) hr ho hes hbase ?_ hline (star_cons hp'.1) (star_any hp'.2)).weak fun σ H Q ⟨s, Z, f, M, rm, rs, h⟩ => ?_
    · rw [star_few hp]
      simp only [Bool.true_and, Bool.and_eq_true, decide_eq_true_eq]
      refine ⟨rfl, ?_⟩
      show (e :: es).length + 0 + 0 < 30
      omega
    · simp only [evE] at h
      refine rd.fst rm rs h fun v1 H1 x Z1 f1 M1 st1 rm1 rs1 rp1 h => ?_
      simp only at h
      split at h
      · rename_i hrc
        refine ⟨tyV_ok hm rm1 rp1 hrc, rd.fst rm1 rs1 h fun v2 H2 y Z2 f2 M2 st2 rm2 rs2 rp2 h => ?_⟩
        obtain ⟨w, M', e, h⟩ := Post.ofL h
        exact hk rm2 (rp1.mono st2.z st2.pre) rp2 e h
      · exact h.elim
end
end TN

/-! TNj: walks, comprehensions, calls. -/
namespace TN
open PySem PySem.Spec PyProof.Rows L2
/-! ### walks -/
def ItmRep (K : PySem.W.Frag) (Z H : Hp) (f : List Addr) (x : V) : Itm → Prop
  | .one w => RepW K Z f x w
  | .many ws => ∃ T vs, x = .ref T ∧ H T = some (.tup vs) ∧ RepWs K Z f vs ws
/-- J walks the items, as long as the cells gs stay -/
structure Wk (K : PySem.W.Frag) (J : It) (items : List Itm) (gs : List Nat) (Z : Hp) (f : List Addr) (H : Hp) (M : Store) : Prop where
  go : ∀ Z2 f2 H2 M2, Stp Z f H Z2 f2 H2 → RelM K H2 Z2 f2 M2 → stays gs M M2 → ∀ i it, items[i]? = some it → J.go i H2 ∧ ∀ x H3, J.yld i H2 x H3 → ∃ Z3, Stp Z2 f2 H2 Z3 f2 H3 ∧ RelM K H3 Z3 f2 M2 ∧ ItmRep K Z3 H3 f2 x it
  stop : ∀ Z2 f2 H2 M2, Stp Z f H Z2 f2 H2 → RelM K H2 Z2 f2 M2 → stays gs M M2 → J.stop items.length H2
def PostI (S : Sx) (σ : L2.St) (Z : Hp) (f : List Addr) (H : Hp) (r : R (List Itm × List Nat × Store)) (Q : It → Hp → Prop) : Prop := match r with
  | .ok (items, gs, M') => ∀ J H' Z' f', Stp Z f H Z' f' H' → RelM S.K H' Z' f' M' → Wk S.K J items gs Z' f' H' M' → Q J H'
  | .exn x _ M' => ∀ cls d H' Z' f', Stp Z f H Z' f' H' → RelM S.K H' Z' f' M' → S.XR x cls d H' → S.W cls d σ H'
  | .stuck => False
def rdI (S : Sx) (Γ : Ctx) (it : I) : TI := fun σ H Q => ∃ s Z f M, RelM S.K H Z f M ∧ RelS S.K Z f σ s ∧ PostI S σ Z f H (evI Γ it s M) Q
section
variable {S : Sx} {α β : Type} {Rp : Hp → Hp → List Addr → β → α → Prop} {σ : L2.St} {Z H : Hp} {f : List Addr} {M : Store} {s : Env}
theorem PostI.step {r : R (List Itm × List Nat × Store)} {Q : It → Hp → Prop} {Z1 H1 : Hp} {f1 : List Addr} (st : Stp Z f H Z1 f1 H1) (h : PostI S σ Z f H r Q) : PostI S σ Z1 f1 H1 r Q := by
  cases r with
  | ok p => obtain ⟨x, gs, M'⟩ := p; exact fun J H' Z' f' s rm w => h J H' Z' f' (st.trans s) rm w
  | exn x s m => exact fun cls d H' Z' f' s rm xr => h cls d H' Z' f' (st.trans s) rm xr
  | stuck => exact h
theorem PostI.bind {r : R (α × Store)} {k : α × Store → R (List Itm × List Nat × Store)} {Q : It → Hp → Prop} (h : PostI S σ Z f H (r.bind k) Q) :
    Post S Rp σ Z f H r fun b H1 => ∃ x Z1 f1 M1, Stp Z f H Z1 f1 H1 ∧ RelM S.K H1 Z1 f1 M1 ∧ Rp H1 Z1 f1 b x ∧ PostI S σ Z1 f1 H1 (k (x, M1)) Q := by
  cases r with
  | ok p =>
    obtain ⟨x, M'⟩ := p
    intro b H' Z' f' s rm rp
    exact ⟨x, Z', f', M', s, rm, rp, PostI.step s h⟩
  | exn x s m => exact h
  | stuck => exact h
theorem PostI.of {γ : Type} {o : Option γ} {k : γ → R (List Itm × List Nat × Store)} {Q : It → Hp → Prop} (h : PostI S σ Z f H ((R.of o).bind k) Q) : ∃ x, o = some x ∧ PostI S σ Z f H (k x) Q := by
  cases o with
  | none => exact h.elim
  | some x => exact ⟨x, rfl, h⟩
theorem rd.fstI {ev : Env → Store → R (α × Store)} {k : α × Store → R (List Itm × List Nat × Store)} {Q : It → Hp → Prop} {Q1 : β → Hp → Prop} (rm : RelM S.K H Z f M) (rs : RelS S.K Z f σ s) (h : PostI S σ Z f H ((ev s M).bind k) Q)
    (go : ∀ b H1 x Z1 f1 M1, Stp Z f H Z1 f1 H1 → RelM S.K H1 Z1 f1 M1 → RelS S.K Z1 f1 σ s → Rp H1 Z1 f1 b x → PostI S σ Z1 f1 H1 (k (x, M1)) Q → Q1 b H1) : rd S Rp ev σ H Q1 :=
  ⟨s, Z, f, M, rm, rs, (PostI.bind (Rp := Rp) h).mono fun b H1 ⟨x, Z1, f1, M1, st, rm1, rp, p⟩ => go b H1 x Z1 f1 M1 st rm1 (rs.mono st.z st.pre) rp p⟩
end
section
variable {K : PySem.W.Frag} {Z H : Hp} {f : List Addr} {M : Store}
theorem seqOf_stays {w : W} {M2 : Store} (h : stays (guardOf w) M M2) : seqOf M2 w = seqOf M w := by
  cases w with
  | d x => cases x <;> rfl
  | r n =>
    have e := h n (by simp [guardOf])
    simp only [seqOf, e]
theorem listOf_stays {w : W} {M2 : Store} (h : stays (guardOf w) M M2) : listOf M2 w = listOf M w := by
  cases w with
  | d x => cases x <;> rfl
  | r n =>
    have e := h n (by simp [guardOf])
    simp only [listOf, e]
theorem get_map {α β : Type} {g : α → β} {xs : List α} {i : Nat} {y : β} (h : (xs.map g)[i]? = some y) : ∃ x, xs[i]? = some x ∧ y = g x := by
  rw [List.getElem?_map] at h
  cases e : xs[i]? with
  | none => rw [e] at h; cases h
  | some x => rw [e] at h; exact ⟨x, rfl, (Option.some.inj h).symm⟩
theorem wk_seqL {a : Addr} {w : W} {ws : List W} (r : RepW K Z f (.ref a) w) (h : seqOf M w = some ws) (nt : ∀ ds, w ≠ .d (.tup ds)) : Wk K (Itl K a) (ws.map .one) (guardOf w) Z f H M where
  go Z2 f2 H2 M2 st rm2 sy i it e := by
    obtain ⟨x, e1, rfl⟩ := get_map e
    rcases seq_cases rm2 (r.mono st.z st.pre) ((seqOf_stays sy).trans h) with ⟨b, vs, eb, hl, hr⟩ | ⟨ds, e2⟩
    · cases eb
      obtain ⟨v, e3, r3⟩ := hr.get e1
      refine ⟨⟨vs, v, hl, e3⟩, fun y H3 hy => ?_⟩
      obtain ⟨rfl, hy⟩ := hy
      have := hy vs hl
      rw [e3] at this
      cases this
      exact ⟨Z2, Stp.refl, rm2, r3⟩
    · exact absurd e2 (nt ds)
  stop Z2 f2 H2 M2 st rm2 sy := by
    rcases seq_cases rm2 (r.mono st.z st.pre) ((seqOf_stays sy).trans h) with ⟨b, vs, eb, hl, hr⟩ | ⟨ds, e2⟩
    · cases eb
      exact ⟨vs, hl, by rw [hr.length, List.length_map]; exact Nat.le_refl _⟩
    · exact absurd e2 (nt ds)
theorem wk_tup {a : Addr} {vs : List V} {ds : List D} (h : SqT K Z a vs) (r : RepDs K Z vs ds) : Wk K (Itt K a) ((ds.map W.d).map .one) [] Z f H M where
  go Z2 f2 H2 M2 st rm2 sy i it e := by
    obtain ⟨x, e1, rfl⟩ := get_map e
    have h2 := sqt_mono rm2.sub (sqt_mono st.z h)
    obtain ⟨v, e3, r3⟩ := (RepDs.ws (f := f2) (r.mono st.z)).get e1
    refine ⟨⟨vs, v, h2, e3⟩, fun y H3 hy => ?_⟩
    obtain ⟨rfl, hy⟩ := hy
    have := hy vs h2
    rw [e3] at this
    cases this
    exact ⟨Z2, Stp.refl, rm2, r3⟩
  stop Z2 f2 H2 M2 st rm2 sy := ⟨vs, sqt_mono rm2.sub (sqt_mono st.z h), by rw [r.length]; simp⟩
theorem wk_str {t : Tx} : Wk K (Its (toS t)) (t.map fun c => .one (.d (.str [c]))) [] Z f H M where
  go Z2 f2 H2 M2 st rm2 sy i it e := by
    obtain ⟨c, e1, rfl⟩ := get_map e
    have hi := (List.getElem?_eq_some_iff.mp e1).1
    refine ⟨by show i < t.toArray.size; simpa using hi, fun y H3 hy => ?_⟩
    obtain ⟨rfl, c', e2, rfl⟩ := hy
    have e3 : c' = c := by
      simp only [List.getElem?_toArray] at e2
      rw [e1] at e2
      exact (Option.some.inj e2).symm
    subst e3
    exact ⟨Z2, Stp.refl, rm2, .d (.str [c'])⟩
  stop Z2 f2 H2 M2 st rm2 sy := by show t.toArray.size ≤ _; simp
theorem wk_rng {lo : Int} {n : Nat} : Wk K (Itr lo n) (rngItems lo n) [] Z f H M where
  go Z2 f2 H2 M2 st rm2 sy i it e := by
    obtain ⟨c, e1, rfl⟩ := get_map e
    have hi := (List.getElem?_eq_some_iff.mp e1).1
    have hc : c = i := by
      rw [List.getElem?_eq_getElem hi] at e1
      simpa using (Option.some.inj e1).symm
    subst hc
    refine ⟨by show c < n; simpa using hi, fun y H3 hy => ?_⟩
    obtain ⟨rfl, rfl⟩ := hy
    exact ⟨Z2, Stp.refl, rm2, .d (.int _)⟩
  stop Z2 f2 H2 M2 st rm2 sy := by show n ≤ _; simp [rngItems]
theorem zip_get : ∀ {xs ys : List W} {i : Nat} {it : Itm}, (zipItems xs ys)[i]? = some it → ∃ x y, xs[i]? = some x ∧ ys[i]? = some y ∧ it = .many [x, y]
  | [], ys, i, it, e => by simp [zipItems] at e
  | _ :: _, [], i, it, e => by simp [zipItems] at e
  | x :: xs, y :: ys, 0, it, e => by
    simp [zipItems] at e
    exact ⟨x, y, rfl, rfl, e.symm⟩
  | x :: xs, y :: ys, i + 1, it, e => by
    obtain ⟨a, b, h1, h2, h3⟩ := zip_get (xs := xs) (ys := ys) (i := i) (it := it) (by simpa [zipItems] using e)
    exact ⟨a, b, by simpa using h1, by simpa using h2, h3⟩
theorem zip_len : ∀ (xs ys : List W), (zipItems xs ys).length = min xs.length ys.length
  | [], ys => by simp [zipItems]
  | _ :: _, [] => by simp [zipItems]
  | x :: xs, y :: ys => by simp only [zipItems, List.length_cons, zip_len xs ys]; omega
theorem enum_get : ∀ {xs : List W} {j i : Nat} {it : Itm}, (enumItems j xs)[i]? = some it → ∃ x, xs[i]? = some x ∧ it = .many [.d (.int ((j + i : Nat) : Int)), x]
  | [], j, i, it, e => by simp [enumItems] at e
  | x :: xs, j, 0, it, e => by
    simp [enumItems] at e
    exact ⟨x, rfl, by simpa using e.symm⟩
  | x :: xs, j, i + 1, it, e => by
    obtain ⟨a, h1, h2⟩ := enum_get (xs := xs) (j := j + 1) (i := i) (it := it) (by simpa [enumItems] using e)
    refine ⟨a, by simpa using h1, ?_⟩
    rw [h2]
    have : j + 1 + i = j + (i + 1) := by omega
    rw [this]
theorem enum_len : ∀ (xs : List W) (j : Nat), (enumItems j xs).length = xs.length
  | [], j => rfl
  | x :: xs, j => by simp only [enumItems, List.length_cons, enum_len xs]
/-- a new pair -/
theorem pair_ok {H2 H3 : Hp} {Z2 : Hp} {f2 : List Addr} {M2 : Store} {T : Addr} {x y : V} {a b : W} (rm : RelM K H2 Z2 f2 M2) (hT : H2 T = none) (e : H3 = upd H2 T (.tup [x, y])) (rx : RepW K Z2 f2 x a) (ry : RepW K Z2 f2 y b) :
    ∃ Z3, Stp Z2 f2 H2 Z3 f2 H3 ∧ RelM K H3 Z3 f2 M2 ∧ ItmRep K Z3 H3 f2 (.ref T) (.many [a, b]) := by
  subst e
  obtain ⟨p, q⟩ := rm.more hT (.tup [x, y])
  exact ⟨Z2, q, p, T, [x, y], rfl, upd_same, .cons rx (.cons ry .nil)⟩
theorem stays_l {w x : W} {M2 : Store} (h : stays (guardOf w ++ guardOf x) M M2) : stays (guardOf w) M M2 ∧ stays (guardOf x) M M2 := ⟨fun n hn => h n (List.mem_append_left _ hn), fun n hn => h n (List.mem_append_right _ hn)⟩
theorem wk_zipL {a b : Addr} {w x : W} {ws xs : List W} (r : RepW K Z f (.ref a) w) (r' : RepW K Z f (.ref b) x) (h : listOf M w = some ws) (h' : listOf M x = some xs) : Wk K (Itz K a b) (zipItems ws xs) (guardOf w ++ guardOf x) Z f H M where
  go Z2 f2 H2 M2 st rm2 sy i it e := by
    obtain ⟨s1, s2⟩ := stays_l sy
    obtain ⟨x1, y1, e1, e2, rfl⟩ := zip_get e
    obtain ⟨a', vs, ea, hl, hr⟩ := list_ok rm2 (r.mono st.z st.pre) ((listOf_stays s1).trans h)
    obtain ⟨b', us, eb, hl', hr'⟩ := list_ok rm2 (r'.mono st.z st.pre) ((listOf_stays s2).trans h')
    cases ea; cases eb
    obtain ⟨v, e3, r3⟩ := hr.get e1
    obtain ⟨u, e4, r4⟩ := hr'.get e2
    refine ⟨⟨vs, us, v, u, SqL.of hl, SqL.of hl', e3, e4⟩, fun y H3 hy => ?_⟩
    obtain ⟨T, p, q, rfl, hT, eH, hp, hq⟩ := hy
    have z1 := hp vs (SqL.of hl)
    have z2 := hq us (SqL.of hl')
    rw [e3] at z1; rw [e4] at z2
    cases z1; cases z2
    exact pair_ok rm2 hT eH r3 r4
  stop Z2 f2 H2 M2 st rm2 sy := by
    obtain ⟨s1, s2⟩ := stays_l sy
    obtain ⟨a', vs, ea, hl, hr⟩ := list_ok rm2 (r.mono st.z st.pre) ((listOf_stays s1).trans h)
    obtain ⟨b', us, eb, hl', hr'⟩ := list_ok rm2 (r'.mono st.z st.pre) ((listOf_stays s2).trans h')
    cases ea; cases eb
    refine ⟨vs, us, SqL.of hl, SqL.of hl', ?_⟩
    rw [hr.length, hr'.length, zip_len]
    omega
theorem wk_zipT {a b : Addr} {vs us : List V} {ds es : List D} (h : SqT K Z a vs) (r : RepDs K Z vs ds) (h' : SqT K Z b us) (r' : RepDs K Z us es) : Wk K (RZ.ItzT K a b) (zipItems (ds.map W.d) (es.map W.d)) [] Z f H M where
  go Z2 f2 H2 M2 st rm2 sy i it e := by
    obtain ⟨x1, y1, e1, e2, rfl⟩ := zip_get e
    have h2 := sqt_mono rm2.sub (sqt_mono st.z h)
    have h3 := sqt_mono rm2.sub (sqt_mono st.z h')
    obtain ⟨v, e3, r3⟩ := (RepDs.ws (f := f2) (r.mono st.z)).get e1
    obtain ⟨u, e4, r4⟩ := (RepDs.ws (f := f2) (r'.mono st.z)).get e2
    refine ⟨⟨vs, us, v, u, h2, h3, e3, e4⟩, fun y H3 hy => ?_⟩
    obtain ⟨T, p, q, rfl, hT, eH, hp, hq⟩ := hy
    have z1 := hp vs h2
    have z2 := hq us h3
    rw [e3] at z1; rw [e4] at z2
    cases z1; cases z2
    exact pair_ok rm2 hT eH r3 r4
  stop Z2 f2 H2 M2 st rm2 sy := by
    refine ⟨vs, us, sqt_mono rm2.sub (sqt_mono st.z h), sqt_mono rm2.sub (sqt_mono st.z h'), ?_⟩
    rw [r.length, r'.length, zip_len]
    simp only [List.length_map]
    omega
theorem wk_enum {a : Addr} {w : W} {ws : List W} (r : RepW K Z f (.ref a) w) (h : seqOf M w = some ws) (nt : ∀ ds, w ≠ .d (.tup ds)) : Wk K (Ite K a) (enumItems 0 ws) (guardOf w) Z f H M where
  go Z2 f2 H2 M2 st rm2 sy i it e := by
    obtain ⟨x1, e1, rfl⟩ := enum_get e
    rcases seq_cases rm2 (r.mono st.z st.pre) ((seqOf_stays sy).trans h) with ⟨b, vs, eb, hl, hr⟩ | ⟨ds, e2⟩
    · cases eb
      obtain ⟨v, e3, r3⟩ := hr.get e1
      refine ⟨⟨vs, v, hl, e3⟩, fun y H3 hy => ?_⟩
      obtain ⟨T, p, rfl, hT, eH, hp⟩ := hy
      have z1 := hp vs hl
      rw [e3] at z1
      cases z1
      have e0 : 0 + i = i := by omega
      rw [e0]
      exact pair_ok rm2 hT eH (.d (.int _)) r3
    · exact absurd e2 (nt ds)
  stop Z2 f2 H2 M2 st rm2 sy := by
    rcases seq_cases rm2 (r.mono st.z st.pre) ((seqOf_stays sy).trans h) with ⟨b, vs, eb, hl, hr⟩ | ⟨ds, e2⟩
    · cases eb
      exact ⟨vs, hl, by rw [hr.length, enum_len]; exact Nat.le_refl _⟩
    · exact absurd e2 (nt ds)
theorem wk_enumT {a : Addr} {vs : List V} {ds : List D} (h : SqT K Z a vs) (r : RepDs K Z vs ds) : Wk K (IteT K a) (enumItems 0 (ds.map W.d)) [] Z f H M where
  go Z2 f2 H2 M2 st rm2 sy i it e := by
    obtain ⟨x1, e1, rfl⟩ := enum_get e
    have h2 := sqt_mono rm2.sub (sqt_mono st.z h)
    obtain ⟨v, e3, r3⟩ := (RepDs.ws (f := f2) (r.mono st.z)).get e1
    refine ⟨⟨vs, v, h2, e3⟩, fun y H3 hy => ?_⟩
    obtain ⟨T, p, rfl, hT, eH, hp⟩ := hy
    have z1 := hp vs h2
    rw [e3] at z1
    cases z1
    have e0 : 0 + i = i := by omega
    rw [e0]
    exact pair_ok rm2 hT eH (.d (.int _)) r3
  stop Z2 f2 H2 M2 st rm2 sy := ⟨vs, sqt_mono rm2.sub (sqt_mono st.z h), by rw [r.length, enum_len]; simp⟩
end
section
variable {X : Cx} {XR : XRT} {W : WX} {Γ : Ctx} {pos : Pos} {tg e a b c : Expr} {es : List Expr} {ea eb ec : E} {ees : Es}
/-- a list, a tuple or a text is walked -/
theorem pi_any {l : Expr} {tl : TE} (hl : PE X l tl) : PI X tg l (fun σ H Q => tl σ H fun x H1 => (∃ a, x = .ref a ∧ (∃ xs, SqL X.K H1 a xs) ∧ Q (Itl X.K a) H1) ∨ (∃ a, x = .ref a ∧ (∃ xs, SqT X.K H1 a xs) ∧ Q (Itt X.K a) H1) ∨ ∃ y, x = .str y ∧ Q (Its y) H1) := by
  refine ⟨fun pins s σ H R I h => ?_⟩
  refine thn (hl.run pins s σ H _ I h) fun v s1 ⟨x, H1, I1, r1, q1⟩ => ?_
  rcases q1 with ⟨a, rfl, ⟨xs, hq⟩, q⟩ | ⟨a, rfl, ⟨xs, hq⟩, q⟩ | ⟨y, rfl, q⟩
  · cases r1
    obtain ⟨its, rv, p, hz⟩ := I1.list hq
    exact wpAny_pyIter_list p.isList (pi_one (tk := s1.toks) I1 _ (turn_list a _) ⟨_, Heap.get?_push_size _ rfl, rfl, rfl⟩ q)
  · cases r1
    obtain ⟨its, rv, p, hz⟩ := I1.tuple hq
    exact wpAny_pyIter_tuple (show s1.heap.IsTuple a its.toArray from p) (pi_one (tk := s1.toks) I1 _ (turn_tuple a _) ⟨_, Heap.get?_push_size _ rfl, rfl, rfl⟩ q)
  · obtain ⟨t, rfl⟩ := r1
    cases ha : y.cps.all (· < 128)
    · exact wpAny_pyIter_wide ha (pi_one (tk := s1.toks) I1 _ (turn_str _ y t "str_iterator" (.inr rfl)) ⟨_, Heap.get?_push_size _ rfl, rfl, rfl⟩ q)
    · exact wpAny_pyIter_ascii ha (pi_one (tk := s1.toks) I1 _ (turn_str _ y t "str_ascii_iterator" (.inl rfl)) ⟨_, Heap.get?_push_size _ rfl, rfl, rfl⟩ q)
theorem iterSem_one {M : Store} {w : TN.W} {items : List Itm} (h : iterSem M w = some items) (ns : ∀ t, w ≠ .d (.str t)) : ∃ ws, seqOf M w = some ws ∧ items = ws.map .one := by
  have e : iterSem M w = (seqOf M w).map fun ws => ws.map .one := by
    cases w with
    | r n => rfl
    | d x => cases x <;> first | rfl | exact absurd rfl (ns _)
  rw [e] at h
  cases q : seqOf M w with
  | none => rw [q] at h; cases h
  | some ws => rw [q] at h; exact ⟨ws, rfl, (Option.some.inj h).symm⟩
theorem gi_of (ha : PE X a (rdE (sx X XR W) Γ ea)) : PI X tg a (rdI (sx X XR W) Γ (.of ea)) := by
  refine (pi_any ha).weak fun σ H Q ⟨s, Z, f, M, rm, rs, h⟩ => ?_
  simp only [evI] at h
  refine rd.fstI rm rs h fun v1 H1 x Z1 f1 M1 st1 rm1 rs1 rp1 h => ?_
  obtain ⟨items, e, h⟩ := PostI.of h
  by_cases hs : ∃ t, x = .d (.str t)
  · obtain ⟨t, rfl⟩ := hs
    cases rp1 with
    | d rp1 =>
      cases rp1
      simp only [iterSem, Option.some.injEq] at e
      subst e
      exact .inr (.inr ⟨_, rfl, h _ H1 Z1 f1 Stp.refl rm1 wk_str⟩)
  · obtain ⟨ws, e1, rfl⟩ := iterSem_one e fun t q => hs ⟨t, q⟩
    by_cases ht : ∃ ds, x = .d (.tup ds)
    · obtain ⟨ds, rfl⟩ := ht
      simp only [seqOf, Option.some.injEq] at e1
      subst e1
      cases rp1 with
      | d rp1 =>
        cases rp1 with
        | @tup a vs _ h1 h2 => exact .inr (.inl ⟨a, rfl, ⟨vs, sqt_mono rm1.sub h1⟩, h _ H1 Z1 f1 Stp.refl rm1 (wk_tup h1 h2)⟩)
    · rcases seq_cases rm1 rp1 e1 with ⟨b, vs, rfl, hl, hr⟩ | ⟨ds, e2⟩
      · exact .inl ⟨b, rfl, ⟨vs, hl⟩, h _ H1 Z1 f1 Stp.refl rm1 (wk_seqL rp1 e1 fun ds q => ht ⟨ds, q⟩)⟩
      · exact absurd ⟨ds, e2⟩ ht
theorem gi_zip {elts : List Expr} {kk : Nat} {tpos p : Pos} (hg : Gl X ("zip" : PySem.Str)) (hm : X.mg ("zip" : PySem.Str) = none) (hp : plE a = true) (hp2 : plE b = true) (ha : PE X a (rdE (sx X XR W) Γ ea)) (hb : PE X b (rdE (sx X XR W) Γ eb)) :
    PI X (.Tuple elts kk tpos) (.Call (.Name ("zip" : PySem.Str) p) [a, b] [] pos) (rdI (sx X XR W) Γ (.zip ea eb)) := by
  have hpa : PA X [a, b] (tCons (rdE (sx X XR W) Γ ea) (tCons (rdE (sx X XR W) Γ eb) tNil)) := pa_cons ha (pa_cons hb pa_nil (star_cons hp2)) (star_cons hp)
  refine (RZ.pi_zipA hg hm hpa (star_cons hp) (star_any (by rw [List.all_cons, hp2]; rfl))).weak fun σ H Q ⟨s, Z, f, M, rm, rs, h⟩ => ?_
  simp only [evI] at h
  refine rd.fstI rm rs h fun v1 H1 x Z1 f1 M1 st1 rm1 rs1 rp1 h => ?_
  refine rd.fstI rm1 rs1 h fun v2 H2 y Z2 f2 M2 st2 rm2 rs2 rp2 h => ?_
  obtain ⟨items, e, h⟩ := PostI.of h
  have rp1 := rp1.mono st2.z st2.pre
  by_cases ht : (∃ d1, x = .d (.tup d1)) ∧ ∃ d2, y = .d (.tup d2)
  · obtain ⟨⟨d1, rfl⟩, d2, rfl⟩ := ht
    simp only [zipSem, Option.some.injEq] at e
    subst e
    cases rp1 with
    | d rp1 =>
      cases rp1 with
      | @tup a1 vs _ h1 h2 =>
        cases rp2 with
        | d rp2 =>
          cases rp2 with
          | @tup a2 us _ h3 h4 => exact ⟨a1, a2, vs, us, rfl, .inr ⟨sqt_mono rm2.sub h1, sqt_mono rm2.sub h3, h _ H2 Z2 f2 Stp.refl rm2 (wk_zipT h1 h2 h3 h4)⟩⟩
  · have e' : (listOf M2 x).bind (fun a => (listOf M2 y).map fun b => zipItems a b) = some items := by
      cases x with
      | r n => exact e
      | d d1 =>
        cases y with
        | r n => cases d1 <;> exact e
        | d d2 => cases d1 <;> first | exact e | (cases d2 <;> first | exact e | exact absurd ⟨⟨_, rfl⟩, _, rfl⟩ ht)
    cases e1 : listOf M2 x with
    | none => rw [e1] at e'; cases e'
    | some ws =>
      rw [e1] at e'
      simp only [Option.bind_some] at e'
      cases e2 : listOf M2 y with
      | none => rw [e2] at e'; cases e'
      | some xs =>
        rw [e2] at e'
        simp only [Option.map_some, Option.some.injEq] at e'
        subst e'
        obtain ⟨a1, vs, rfl, h1, h2⟩ := list_ok rm2 rp1 e1
        obtain ⟨a2, us, rfl, h3, h4⟩ := list_ok rm2 rp2 e2
        exact ⟨a1, a2, vs, us, rfl, .inl ⟨SqL.of h1, SqL.of h3, h _ H2 Z2 f2 Stp.refl rm2 (wk_zipL rp1 rp2 e1 e2)⟩⟩
theorem gi_enum {elts : List Expr} {kk : Nat} {tpos p : Pos} (hg : Gl X ("enumerate" : PySem.Str)) (hm : X.mg ("enumerate" : PySem.Str) = none) (hp : plE a = true) (ha : PE X a (rdE (sx X XR W) Γ ea)) :
    PI X (.Tuple elts kk tpos) (.Call (.Name ("enumerate" : PySem.Str) p) [a] [] pos) (rdI (sx X XR W) Γ (.enum ea)) := by
  have hpa : PA X [a] (tCons (rdE (sx X XR W) Γ ea) tNil) := pa_cons ha pa_nil (star_cons hp)
  refine (pi_enumT hg hm hpa (star_cons hp)).weak fun σ H Q ⟨s, Z, f, M, rm, rs, h⟩ => ?_
  simp only [evI] at h
  refine rd.fstI rm rs h fun v1 H1 x Z1 f1 M1 st1 rm1 rs1 rp1 h => ?_
  obtain ⟨ws, e, h⟩ := PostI.of h
  by_cases ht : ∃ ds, x = .d (.tup ds)
  · obtain ⟨ds, rfl⟩ := ht
    simp only [seqOf, Option.some.injEq] at e
    subst e
    cases rp1 with
    | d rp1 =>
      cases rp1 with
      | @tup a vs _ h1 h2 => exact ⟨a, vs, rfl, .inr ⟨sqt_mono rm1.sub h1, h _ H1 Z1 f1 Stp.refl rm1 (wk_enumT h1 h2)⟩⟩
  · rcases seq_cases rm1 rp1 e with ⟨b, vs, rfl, hl, hr⟩ | ⟨ds, e2⟩
    · exact ⟨b, vs, rfl, .inl ⟨hl, h _ H1 Z1 f1 Stp.refl rm1 (wk_enum rp1 e fun ds q => ht ⟨ds, q⟩)⟩⟩
    · exact absurd ⟨ds, e2⟩ ht
theorem rd.argsI {σ : L2.St} {Z H : Hp} {f : List Addr} {M : Store} {s : Env} {k : List TN.W × Store → R (List Itm × List Nat × Store)} {Q : It → Hp → Prop} {Q1 : List V → Hp → Prop} (rm : RelM X.K H Z f M) (rs : RelS X.K Z f σ s)
    (h : PostI (sx X XR W) σ Z f H ((evEs Γ ees s M).bind k) Q)
    (go : ∀ b H1 x Z1 f1 M1, Stp Z f H Z1 f1 H1 → RelM X.K H1 Z1 f1 M1 → RelS X.K Z1 f1 σ s → RepWs X.K Z1 f1 b x → x.length = ees.len → PostI (sx X XR W) σ Z1 f1 H1 (k (x, M1)) Q → Q1 b H1) : rdEs (sx X XR W) Γ ees σ H Q1 := by
  refine ⟨s, Z, f, M, rm, rs, ?_⟩
  cases q : evEs Γ ees s M with
  | ok p =>
    obtain ⟨x, M'⟩ := p
    rw [q] at h
    exact fun b H1 Z1 f1 st rm1 rp => go b H1 x Z1 f1 M' st rm1 (rs.mono st.z st.pre) rp (evEs_len _ q) (PostI.step st h)
  | exn x s m => rw [q] at h; exact h
  | stuck => rw [q] at h; exact h
theorem rng_one : ∀ {ws : List TN.W} {items : List Itm}, rngSem ws = some items → ws.length = 1 → ∃ j, ws = [.d (.int j)] ∧ (-(2 ^ 62) ≤ j ∧ j < 2 ^ 62) ∧ items = rngItems 0 j.toNat
  | [.d (.int j)], items, h, _ => by
    simp only [rngSem] at h
    split at h
    · rename_i hj; cases h; exact ⟨j, rfl, hj, rfl⟩
    · cases h
  | [.r _], _, h, _ => by simp [rngSem] at h
  | [.d .non], _, h, _ => by simp [rngSem] at h
  | [.d (.bl _)], _, h, _ => by simp [rngSem] at h
  | [.d (.str _)], _, h, _ => by simp [rngSem] at h
  | [.d (.tup _)], _, h, _ => by simp [rngSem] at h
  | [.d (.lst _)], _, h, _ => by simp [rngSem] at h
  | [.d (.dct _ _)], _, h, _ => by simp [rngSem] at h
  | [.d (.scr _)], _, h, _ => by simp [rngSem] at h
  | [], _, _, h => by cases h
  | _ :: _ :: _, _, _, h => by simp at h
theorem rng_two {ws : List TN.W} {items : List Itm} (h : rngSem ws = some items) (hl : ws.length = 2) : ∃ i j, ws = [.d (.int i), .d (.int j)] ∧ (-(2 ^ 62) ≤ i ∧ i < 2 ^ 62 ∧ -(2 ^ 62) ≤ j ∧ j < 2 ^ 62) ∧ items = rngItems i (j - i).toNat := by
  unfold rngSem at h
  split at h
  · simp at hl
  · rename_i i j
    split at h
    · rename_i hj; cases h; exact ⟨i, j, rfl, hj, rfl⟩
    · cases h
  · cases h
theorem gi_rng1 {p : Pos} (hg : Gl X ("range" : PySem.Str)) (hm : X.mg ("range" : PySem.Str) = none) (hp : plE a = true) (ha : PA X [a] (rdEs (sx X XR W) Γ (.cons ea .nil))) :
    PI X tg (.Call (.Name ("range" : PySem.Str) p) [a] [] pos) (rdI (sx X XR W) Γ (.rng (.cons ea .nil))) := by
  refine (pi_range1 hg hm ha (star_cons hp)).weak fun σ H Q ⟨s, Z, f, M, rm, rs, h⟩ => ?_
  simp only [evI] at h
  refine rd.argsI rm rs h fun v1 H1 x Z1 f1 M1 st1 rm1 rs1 rp1 hn h => ?_
  obtain ⟨items, e, h⟩ := PostI.of h
  obtain ⟨j, rfl, hj, rfl⟩ := rng_one e hn
  obtain ⟨v, rfl, r1⟩ := one_rep rp1
  cases r1 with
  | d r1 =>
    cases r1
    exact ⟨j, rfl, hj.1, hj.2, h _ H1 Z1 f1 Stp.refl rm1 wk_rng⟩
theorem gi_rng2 {p : Pos} (hg : Gl X ("range" : PySem.Str)) (hm : X.mg ("range" : PySem.Str) = none) (hp : plE a = true) (hp2 : plE b = true) (ha : PA X [a, b] (rdEs (sx X XR W) Γ (.cons ea (.cons eb .nil)))) :
    PI X tg (.Call (.Name ("range" : PySem.Str) p) [a, b] [] pos) (rdI (sx X XR W) Γ (.rng (.cons ea (.cons eb .nil)))) := by
  refine (pi_range2 hg hm ha (by rw [star_cons hp, star_cons hp2]; rfl) (by rw [star_cons hp2]; rfl)).weak fun σ H Q ⟨s, Z, f, M, rm, rs, h⟩ => ?_
  simp only [evI] at h
  refine rd.argsI rm rs h fun v1 H1 x Z1 f1 M1 st1 rm1 rs1 rp1 hn h => ?_
  obtain ⟨items, e, h⟩ := PostI.of h
  obtain ⟨i, j, rfl, hj, rfl⟩ := rng_two e hn
  obtain ⟨v, u, rfl, r1, r2⟩ := two_rep rp1
  cases r1 with
  | d r1 =>
    cases r1
    cases r2 with
    | d r2 =>
      cases r2
      exact ⟨i, j, rfl, hj, h _ H1 Z1 f1 Stp.refl rm1 wk_rng⟩
/-! ### targets -/
def gN : List Nat → TGs
  | [] => gNil
  | i :: is => gCons (gName i) (gN is)
def gT (K : PySem.W.Frag) : Tg → TG
  | .nm i => gName i
  | .tu is => gTup K is.length (gN is)
theorem wipe_get (σ : L2.St) (n : Nat) : ∀ vs : List Nat, (L2.wipe σ vs)[n]? = if n ∈ vs then (σ[n]?).map fun _ => none else σ[n]?
  | [] => by simp [L2.wipe]
  | v :: vs => by
    have e : L2.wipe σ (v :: vs) = (L2.wipe σ vs).set v none := rfl
    have ih := wipe_get σ n vs
    rw [e]
    by_cases hv : v = n
    · subst hv
      rw [List.getElem?_set_self', ih]
      simp only [List.mem_cons, true_or, if_true]
      split <;> cases σ[v]? <;> rfl
    · rw [List.getElem?_set_ne hv, ih]
      have : ¬ n = v := fun z => hv z.symm
      simp only [List.mem_cons, this, false_or]
theorem wipe_set {σ : L2.St} {i : Nat} {x : Option V} {vs : List Nat} (h : i ∈ vs) : L2.wipe (σ.set i x) vs = L2.wipe σ vs := by
  apply List.ext_getElem?
  intro n
  rw [wipe_get, wipe_get]
  by_cases hn : i = n
  · subst hn
    rw [if_pos h, if_pos h, List.getElem?_set_self']
    cases σ[i]? <;> rfl
  · rw [List.getElem?_set_ne hn]
theorem wipe_wipe (σ : L2.St) (vs : List Nat) : L2.wipe (L2.wipe σ vs) vs = L2.wipe σ vs := by
  apply List.ext_getElem?
  intro n
  rw [wipe_get, wipe_get]
  split
  · cases σ[n]? <;> rfl
  · rfl
theorem gN_ok {Q : L2.St → Hp → Prop} {H : Hp} {Z : Hp} {f : List Addr} : ∀ {is : List Nat} {vs : List V} {ws : List TN.W} {σ : L2.St} {s s' : Env}, RelS X.K Z f σ s → RepWs X.K Z f vs ws → putAll is ws s = some s' →
    (∀ σ', RelS X.K Z f σ' s' → (∀ js, (∀ i ∈ is, i ∈ js) → L2.wipe σ' js = L2.wipe σ js) → Q σ' H) → gN is vs σ H Q
  | [], vs, ws, σ, s, s', rs, r, e, q => by
    cases ws with
    | nil =>
      cases r
      simp only [putAll, Option.some.injEq] at e
      subst e
      exact ⟨rfl, q σ rs fun _ _ => rfl⟩
    | cons _ _ => simp [putAll] at e
  | i :: is, vs, ws, σ, s, s', rs, r, e, q => by
    cases ws with
    | nil => simp [putAll] at e
    | cons w ws =>
      cases r with
      | @cons v vs _ _ r1 r2 =>
        simp only [putAll] at e
        refine ⟨v, vs, rfl, ?_⟩
        exact gN_ok (rs.set i r1) r2 e fun σ' rs' hw => q σ' rs' fun js hj => by
          rw [hw js fun k hk => hj k (List.mem_cons_of_mem _ hk), wipe_set (hj i (List.mem_cons_self ..))]
theorem putAll_len : ∀ {is : List Nat} {ws : List TN.W} {s s' : Env}, putAll is ws s = some s' → ws.length = is.length
  | [], [], _, _, _ => rfl
  | [], _ :: _, _, _, e => by simp [putAll] at e
  | _ :: _, [], _, _, e => by simp [putAll] at e
  | i :: is, w :: ws, s, s', e => by
    simp only [putAll] at e
    rw [List.length_cons, List.length_cons, putAll_len e]
theorem gT_ok {Q : L2.St → Hp → Prop} {H : Hp} {Z : Hp} {f : List Addr} {M : Store} {t : Tg} {x : V} {it : Itm} {σ : L2.St} {s s' : Env} (rm : RelM X.K H Z f M) (rs : RelS X.K Z f σ s) (r : ItmRep X.K Z H f x it) (e : t.put it s = some s')
    (q : ∀ σ', RelS X.K Z f σ' s' → L2.wipe σ' t.slots = L2.wipe σ t.slots → Q σ' H) : gT X.K t x σ H Q := by
  cases t with
  | nm i =>
    cases it with
    | one w =>
      simp only [Tg.put, Option.some.injEq] at e
      subst e
      exact q _ (rs.set i r) (wipe_set (by simp [Tg.slots]))
    | many ws => simp [Tg.put] at e
  | tu is =>
    cases it with
    | one w =>
      cases w with
      | r n => simp [Tg.put] at e
      | d y =>
        cases y <;> simp only [Tg.put] at e <;> try (cases e; done)
        cases r with
        | d r =>
          cases r with
          | @tup a vs ds h1 h2 =>
            refine ⟨a, vs, rfl, sqt_mono rm.sub h1, ?_, gN_ok rs h2.ws e fun σ' rs' hw => q σ' rs' (hw _ fun _ h => h)⟩
            rw [h2.length]
            simpa using putAll_len e
    | many ws =>
      simp only [Tg.put] at e
      obtain ⟨T, vs, rfl, h1, h2⟩ := r
      exact ⟨T, vs, rfl, .inl (.inl h1), by rw [h2.length]; exact putAll_len e, gN_ok rs h2 e fun σ' rs' hw => q σ' rs' (hw _ fun _ h => h)⟩
/-! ### list comprehensions -/
/-- an untracked object is written -/
theorem RelM.scratch {K : PySem.W.Frag} {Z H : Hp} {f : List Addr} {M : Store} (rm : RelM K H Z f M) {a : Addr} (hz : Z a = none) (hf : a ∉ f) (o : HO) : RelM K (upd H a o) Z f M := by
  refine ⟨fun b u q => ?_, rm.len, rm.nd, fun n c b h1 h2 => ?_, rm.off, fun b hb => ?_⟩
  · rw [upd_ne (fun z => by subst z; rw [hz] at q; cases q)]; exact rm.sub b u q
  · have ne : b ≠ a := fun z => hf (z ▸ List.mem_of_getElem? h2)
    have := rm.cell n c b h1 h2
    cases c with
    | lst ws => obtain ⟨vs, q1, q2⟩ := this; exact ⟨vs, by rw [upd_ne ne]; exact q1, q2⟩
    | dct ks ws => obtain ⟨kvs, q1, q2, q3⟩ := this; exact ⟨kvs, by rw [upd_ne ne]; exact q1, q2, q3⟩
    | ins _ _ => exact this.elim
    | dead => trivial
  · by_cases q : b = a
    · subst q; rw [upd_same]; exact fun z => nomatch z
    · rw [upd_ne q]; exact rm.inH b hb
theorem Stp.scratch {Z Z' H0 H' : Hp} {f f' : List Addr} (st : Stp Z f H0 Z' f' H') {a : Addr} (h0 : H0 a = none) (o : HO) : Stp Z f H0 Z' f' (upd H' a o) :=
  ⟨st.z, st.pre, fun b u e n => by rw [upd_ne (ne_of_none e h0)]; exact st.fr b u e n, fun b e => by
    by_cases q : b = a
    · subst q; exact h0
    · rw [upd_ne q] at e; exact st.dom b e, st.nz, st.nf⟩
/-- an untracked object stays as it is -/
theorem Stp.stay {Z Z' H0 H' : Hp} {f f' : List Addr} (st : Stp Z f H0 Z' f' H') {a : Addr} {o : HO} (h0 : H0 a = some o) (hz : Z a = none) (hf : a ∉ f) : H' a = some o ∧ Z' a = none ∧ a ∉ f' := by
  refine ⟨st.fr a o h0 hf, ?_, fun h => ?_⟩
  · cases q : Z' a with
    | none => rfl
    | some u =>
      rcases st.nz a u q with h | h | h
      · rw [hz] at h; cases h
      · rw [h0] at h; cases h
      · exact absurd h hf
  · rcases st.nf a h with h | h
    · exact hf h
    · rw [h0] at h; cases h
theorem nox_ok {S : Sx} {α : Type} {σ : L2.St} {Z H : Hp} {f : List Addr} {r : R α} {k : α → R (List TN.W × Store)} {Q : VK} (h : PostL S σ Z f H (r.bind k).nox Q) : ∃ p, r = .ok p ∧ PostL S σ Z f H (k p).nox Q := by
  cases r with
  | ok p => exact ⟨p, rfl, h⟩
  | exn x s m => exact h.elim
  | stuck => exact h.elim
theorem nox_of {S : Sx} {α : Type} {σ : L2.St} {Z H : Hp} {f : List Addr} {o : Option α} {k : α → R (List TN.W × Store)} {Q : VK} (h : PostL S σ Z f H ((R.of o).bind k).nox Q) : ∃ p, o = some p ∧ PostL S σ Z f H (k p).nox Q := by
  cases o with
  | some p => exact ⟨p, rfl, h⟩
  | none => exact h.elim
theorem stays.trans {gs : List Nat} {M M1 M2 : Store} (a : stays gs M M1) (b : stays gs M1 M2) : stays gs M M2 := fun n hn => (b n hn).trans (a n hn)
/-- the test of a clause -/
def rdC (S : Sx) (Γ : Ctx) (ec : E) : TT := rd S RpB fun s M => if ec.isNo then .ok (true, M) else evTest Γ ec s M
theorem gc_none : PTs X [] (rdC (sx X XR W) Γ .no) := ⟨fun pins s σ H Q I h => pts_nil.run pins s σ H Q I (by
  obtain ⟨s, Z, f, M, rm, rs, h⟩ := h
  exact h true H Z f Stp.refl rm rfl)⟩
theorem gc_one (hn : ec.isNo = false) (h : PT X c (rdT (sx X XR W) Γ ec)) : PTs X [c] (rdC (sx X XR W) Γ ec) := ⟨fun pins s σ H Q I q => (pts_one h).run pins s σ H Q I (by
  obtain ⟨s, Z, f, M, rm, rs, q⟩ := q
  simp only [hn, Bool.false_eq_true, if_false] at q
  exact ⟨s, Z, f, M, rm, rs, q⟩)⟩
abbrev noW : WX := fun _ _ _ _ => False
/-- the turns of a comprehension -/
theorem comp_ok {elt c : E} {tg : Tg} {s : Env} {σ : L2.St} {Q : VK} {J : It} {items : List Itm} {gs : List Nat} {Z1 H1 : Hp} {f1 : List Addr} {M1 : Store}
    (rm1 : RelM X.K H1 Z1 f1 M1) (rs1 : RelS X.K Z1 f1 σ s) (wk : Wk X.K J items gs Z1 f1 H1 M1)
    (h : PostL (sx X XR W) σ Z1 f1 H1 (compLoop (fun x => tg.put x (TN.wipe s tg.slots)) (fun s M => if c.isNo then .ok (true, M) else evTest Γ c s M) (fun s M => evE Γ elt s M) gs items M1 []).nox Q) (D : Addr) (hD : H1 D = none) :
    ∃ Wm : Nat → Nat → Hp → Prop, (∃ m, Wm 0 m (upd H1 D (.lst []))) ∧ ∀ i m H, Wm i m H →
      (J.stop i H ∧ Q (.ref D) H) ∨ (J.go i H ∧ ∃ Nx : Hp → Prop, (∀ H', Nx H' → ∃ m', m' < m ∧ Wm (i + 1) m' H') ∧ ∀ x H', J.yld i H x H' → gT X.K tg x (L2.wipe σ tg.slots) H' fun σ2 H2 => L2.wipe σ2 tg.slots = L2.wipe σ tg.slots ∧ rdC (sx X XR noW) Γ c σ2 H2 fun b H3 =>
        if b = true then rdE (sx X XR noW) Γ elt σ2 H3 fun y H4 => ∃ acc, H4 D = some (.lst acc) ∧ acc.length < sizeLine ∧ Nx (upd H4 D (.lst (acc ++ [y]))) else Nx H3) := by
  have zD := rm1.zn hD
  have nD := rm1.nin hD
  let Wn : Nat → Hp → Prop := fun i H => i ≤ items.length ∧ ∃ Z f M acc vs, Stp Z1 f1 H1 Z f H ∧ RelM X.K H Z f M ∧ stays gs M1 M ∧ H D = some (.lst vs) ∧ Z D = none ∧ D ∉ f ∧ RepWs X.K Z f vs acc ∧
    PostL (sx X XR W) σ Z1 f1 H1 (compLoop (fun x => tg.put x (TN.wipe s tg.slots)) (fun s M => if c.isNo then .ok (true, M) else evTest Γ c s M) (fun s M => evE Γ elt s M) gs (items.drop i) M acc).nox Q
  refine ⟨fun i m H => m = items.length - i ∧ Wn i H, ⟨items.length, by simp, Nat.zero_le _, Z1, f1, M1, [], [], Stp.refl.scratch hD _, rm1.scratch zD nD _, fun _ _ => rfl, upd_same, zD, nD, .nil, by simpa using h⟩, ?_⟩
  rintro i m H ⟨rfl, hi, Z, f, M, acc, vs, st, rm, sy, hDl, hzD, hfD, rv, h⟩
  by_cases hlt : i < items.length
  · refine .inr ?_
    have ei : items[i]? = some items[i] := List.getElem?_eq_getElem hlt
    obtain ⟨g1, g2⟩ := wk.go Z f H M st rm sy i _ ei
    refine ⟨g1, Wn (i + 1), fun H' w => ⟨items.length - (i + 1), by omega, rfl, w⟩, fun x H' hy => ?_⟩
    obtain ⟨Z3, st3, rm3, ri⟩ := g2 x H' hy
    rw [List.drop_eq_getElem_cons hlt] at h
    unfold compLoop at h
    obtain ⟨s2, e2, h⟩ := nox_of h
    have rs3 := ((rs1.mono st.z st.pre).mono st3.z st3.pre).wipe tg.slots
    refine gT_ok rm3 rs3 ri e2 fun σ2 rs2 hw => ⟨hw.trans (wipe_wipe σ _), ?_⟩
    obtain ⟨⟨b, M4⟩, e4, h⟩ := nox_ok h
    refine ⟨s2, Z3, f, M, rm3, rs2, ?_⟩
    show Post _ _ _ _ _ _ (if c.isNo = true then _ else _) _
    rw [e4]
    intro b' H4 Z4 f4 st4 rm4 eb
    cases (show b' = b from eb)
    obtain ⟨d1, d2, d3⟩ := (st3.trans st4).stay hDl hzD hfD
    have st14 := (st.trans st3).trans st4
    cases b with
    | true =>
      simp only [if_true] at h ⊢
      obtain ⟨⟨w, M5⟩, e5, h⟩ := nox_ok h
      refine ⟨s2, Z4, f4, M4, rm4, rs2.mono st4.z st4.pre, ?_⟩
      rw [e5]
      intro y H5 Z5 f5 st5 rm5 ry
      obtain ⟨d4, d5, d6⟩ := st5.stay d1 d2 d3
      simp only at h
      split at h
      · rename_i hg
        rw [Bool.and_eq_true] at hg
        have rv5 : RepWs X.K Z5 f5 vs acc := ((rv.mono st3.z st3.pre).mono st4.z st4.pre).mono st5.z st5.pre
        refine ⟨vs, d4, by rw [rv5.length, ← line_eq]; exact of_decide_eq_true hg.2, hlt, Z5, f5, M5, acc ++ [w], vs ++ [y], (st14.trans st5).scratch hD _, rm5.scratch d5 d6 _, sy.trans (guard_ok hg.1), upd_same, d5, d6, rv5.append (.cons ry .nil), h⟩
      · exact h.elim
    | false =>
      simp only [Bool.false_eq_true, if_false] at h ⊢
      split at h
      · rename_i hg
        exact ⟨hlt, Z4, f4, M4, acc, vs, st14, rm4, sy.trans (guard_ok hg), d1, d2, d3, (rv.mono st3.z st3.pre).mono st4.z st4.pre, h⟩
      · exact h.elim
  · have e : i = items.length := by omega
    subst e
    refine .inl ⟨wk.stop Z f H M st rm sy, ?_⟩
    rw [List.drop_length] at h
    unfold compLoop at h
    exact h D vs H Z f st rm hDl hD hzD hfD rv
theorem gl_comp {elt : Expr} {ifs : List Expr} {scope : Scope} {own : List (PySem.Str × Nat)} {iter : Expr} {eelt ec : E} {etg : Tg} {eit : I} (hc : X.calm = true) (hN : X.N.Nodup) (hi : PI X tg iter (rdI (sx X XR W) Γ eit)) (ok : BlkOk X.N X.env.scope scope own) (hown : own.map (·.2) = etg.slots)
    (hg : ∀ (s : Shared) (H : Hp) (C : Addr) (cl : List (PySem.Str × Addr)) (fp : List Addr), PG (X.blk s H scope (compEnvC scope cl C X.env) fp) tg (gT X.K etg))
    (ht : ∀ (s : Shared) (H : Hp) (C : Addr) (cl : List (PySem.Str × Addr)) (fp : List Addr), PTs (X.blk s H scope (compEnvC scope cl C X.env) fp) ifs (rdC (sx X XR noW) Γ ec))
    (he : ∀ (s : Shared) (H : Hp) (C : Addr) (cl : List (PySem.Str × Addr)) (fp : List Addr), PE (X.blk s H scope (compEnvC scope cl C X.env) fp) elt (rdE (sx X XR noW) Γ eelt)) (hs : ∀ x, foldedSetIterable iter X.env x = pure x) :
    PE X (.ListComp elt [⟨tg, iter, ifs, 0⟩] scope pos) (rdL (sx X XR W) Γ (.comp eelt etg eit ec)) := by
  refine (pe_lc hc hN hi ok hg ht he hs).weak fun σ H Q ⟨s, Z, f, M, rm, rs, h⟩ => ⟨s, Z, f, M, rm, rs, ?_⟩
  simp only [evL] at h
  cases q : evI Γ eit s M with
  | ok p =>
    obtain ⟨items, gs, M1⟩ := p
    rw [q] at h
    intro J H1 Z1 f1 st1 rm1 wk D hD
    rw [hown]
    exact comp_ok rm1 (rs.mono st1.z st1.pre) wk (PostL.step st1 h) D hD
  | exn x s m => rw [q] at h; exact h
  | stuck => rw [q] at h; exact h
end
end TN

/-! TNdc: dict comprehensions. -/
namespace TN
open PySem PySem.Spec PyProof.Rows L2
/-- a dict that has just been laid -/
def PostD (S : Sx) (Z : Hp) (f : List Addr) (H : Hp) (r : R ((List Ky × List TN.W) × Store)) (Q : VK) : Prop := match r with
  | .ok (p, M') => ∀ a kvs H' Z' f', Stp Z f H Z' f' H' → RelM S.K H' Z' f' M' → H' a = some (.dK kvs) → H a = none → Z' a = none → a ∉ f' → kvs.map (·.1) = p.1.map kyK → RepWs S.K Z' f' (kvs.map (·.2)) p.2 → Q (.ref a) H'
  | _ => False
section
variable {X : Cx} {XR : XRT} {W : WX} {Γ : Ctx} {pos : Pos} {tg : Expr}
theorem PostD.step {S : Sx} {Z H Z1 H1 : Hp} {f f1 : List Addr} {r : R ((List Ky × List TN.W) × Store)} {Q : VK} (st : Stp Z f H Z1 f1 H1) (h : PostD S Z f H r Q) : PostD S Z1 f1 H1 r Q := by
  cases r with
  | ok p =>
    obtain ⟨p, M'⟩ := p
    exact fun a kvs H' Z' f' s rm e1 e2 e3 e4 e5 e6 => h a kvs H' Z' f' (st.trans s) rm e1 (st.dom a e2) e3 e4 e5 e6
  | exn x s m => exact h.elim
  | stuck => exact h.elim
theorem noxD_ok {S : Sx} {α : Type} {Z H : Hp} {f : List Addr} {r : R α} {k : α → R ((List Ky × List TN.W) × Store)} {Q : VK} (h : PostD S Z f H (r.bind k).nox Q) : ∃ p, r = .ok p ∧ PostD S Z f H (k p).nox Q := by
  cases r with
  | ok p => exact ⟨p, rfl, h⟩
  | exn x s m => exact h.elim
  | stuck => exact h.elim
theorem noxD_of {S : Sx} {α : Type} {Z H : Hp} {f : List Addr} {o : Option α} {k : α → R ((List Ky × List TN.W) × Store)} {Q : VK} (h : PostD S Z f H ((R.of o).bind k).nox Q) : ∃ p, o = some p ∧ PostD S Z f H (k p).nox Q := by
  cases o with
  | some p => exact ⟨p, rfl, h⟩
  | none => exact h.elim
theorem dcomp_ok {ek ev : E} {tg : Tg} {s : Env} {σ : L2.St} {Q : VK} {J : It} {items : List Itm} {gs : List Nat} {Z1 H1 : Hp} {f1 : List Addr} {M1 : Store}
    (rm1 : RelM X.K H1 Z1 f1 M1) (rs1 : RelS X.K Z1 f1 σ s) (wk : Wk X.K J items gs Z1 f1 H1 M1)
    (h : PostD (sx X XR W) Z1 f1 H1 (dcLoop (fun x => tg.put x (TN.wipe s tg.slots)) (fun s M => evE Γ ek s M) (fun s M => evE Γ ev s M) gs items M1 [] []).nox Q) (D : Addr) (hD : H1 D = none) :
    ∃ Wm : Nat → Nat → Hp → Prop, (∃ m, Wm 0 m (upd H1 D (.dK []))) ∧ ∀ i m H, Wm i m H →
      (J.stop i H ∧ Q (.ref D) H) ∨ (J.go i H ∧ ∃ Nx : Hp → Prop, (∀ H', Nx H' → ∃ m', m' < m ∧ Wm (i + 1) m' H') ∧ ∀ x H', J.yld i H x H' → gT X.K tg x (L2.wipe σ tg.slots) H' fun σ2 H2 => L2.wipe σ2 tg.slots = L2.wipe σ tg.slots ∧ rdC (sx X XR noW) Γ .no σ2 H2 fun b H3 =>
        if b = true then rdE (sx X XR noW) Γ ek σ2 H3 fun y H4 => rdE (sx X XR noW) Γ ev σ2 H4 fun z H5 => ∃ kvs k, y = kV k ∧ H5 D = some (.dK kvs) ∧ kvs.length < sizeLine ∧ Nx (upd H5 D (.dK (putK kvs k z))) else Nx H3) := by
  have zD := rm1.zn hD
  have nD := rm1.nin hD
  let Wn : Nat → Hp → Prop := fun i H => i ≤ items.length ∧ ∃ Z f M ks ws kvs, Stp Z1 f1 H1 Z f H ∧ RelM X.K H Z f M ∧ stays gs M1 M ∧ H D = some (.dK kvs) ∧ Z D = none ∧ D ∉ f ∧ kvs.map (·.1) = ks.map kyK ∧ RepWs X.K Z f (kvs.map (·.2)) ws ∧
    PostD (sx X XR W) Z1 f1 H1 (dcLoop (fun x => tg.put x (TN.wipe s tg.slots)) (fun s M => evE Γ ek s M) (fun s M => evE Γ ev s M) gs (items.drop i) M ks ws).nox Q
  refine ⟨fun i m H => m = items.length - i ∧ Wn i H, ⟨items.length, by simp, Nat.zero_le _, Z1, f1, M1, [], [], [], Stp.refl.scratch hD _, rm1.scratch zD nD _, fun _ _ => rfl, upd_same, zD, nD, rfl, .nil, by simpa using h⟩, ?_⟩
  rintro i m H ⟨rfl, hi, Z, f, M, ks, ws, kvs, st, rm, sy, hDl, hzD, hfD, hk, rv, h⟩
  by_cases hlt : i < items.length
  · refine .inr ?_
    have ei : items[i]? = some items[i] := List.getElem?_eq_getElem hlt
    obtain ⟨g1, g2⟩ := wk.go Z f H M st rm sy i _ ei
    refine ⟨g1, Wn (i + 1), fun H' w => ⟨items.length - (i + 1), by omega, rfl, w⟩, fun x H' hy => ?_⟩
    obtain ⟨Z3, st3, rm3, ri⟩ := g2 x H' hy
    rw [List.drop_eq_getElem_cons hlt] at h
    unfold dcLoop at h
    obtain ⟨s2, e2, h⟩ := noxD_of h
    have rs3 := ((rs1.mono st.z st.pre).mono st3.z st3.pre).wipe tg.slots
    refine gT_ok rm3 rs3 ri e2 fun σ2 rs2 hw => ⟨hw.trans (wipe_wipe σ _), ?_⟩
    refine ⟨s2, Z3, f, M, rm3, rs2, ?_⟩
    show Post _ _ _ _ _ _ (.ok (true, M)) _
    intro b' H4 Z4 f4 st4 rm4 eb
    cases (show b' = true from eb)
    rw [if_pos rfl]
    obtain ⟨⟨y, M5⟩, e5, h⟩ := noxD_ok h
    refine ⟨s2, Z4, f4, M, rm4, rs2.mono st4.z st4.pre, ?_⟩
    rw [e5]
    intro yv H5 Z5 f5 st5 rm5 ry
    obtain ⟨⟨w, M6⟩, e6, h⟩ := noxD_ok h
    refine ⟨s2, Z5, f5, M5, rm5, (rs2.mono st4.z st4.pre).mono st5.z st5.pre, ?_⟩
    rw [e6]
    intro zv H6 Z6 f6 st6 rm6 rz
    have st16 := (((st.trans st3).trans st4).trans st5).trans st6
    obtain ⟨d1, d2, d3⟩ := (((st3.trans st4).trans st5).trans st6).stay hDl hzD hfD
    cases y with
    | r n => exact h.elim
    | d d =>
      simp only at h
      obtain ⟨k, ek2, h⟩ := noxD_of h
      cases ry with
      | d ry =>
        have e7 := ky_rep ry ek2
        split at h
        · rename_i hg
          rw [Bool.and_eq_true] at hg
          have rv6 : RepWs X.K Z6 f6 (kvs.map (·.2)) ws := (((rv.mono st3.z st3.pre).mono st4.z st4.pre).mono st5.z st5.pre).mono st6.z st6.pre
          obtain ⟨p1, p2⟩ := dput_rep rz k hk rv6
          refine ⟨kvs, kyK k, e7, d1, by rw [kvs_len hk, ← line_eq]; exact of_decide_eq_true hg.2, hlt, Z6, f6, M6, (dputK k w ks ws).1, (dputK k w ks ws).2, putK kvs (kyK k) zv, st16.scratch hD _, rm6.scratch d2 d3 _, sy.trans (guard_ok hg.1), upd_same, d2, d3, p1, p2, h⟩
        · exact h.elim
  · have e : i = items.length := by omega
    subst e
    refine .inl ⟨wk.stop Z f H M st rm sy, ?_⟩
    rw [List.drop_length] at h
    unfold dcLoop at h
    exact h D kvs H Z f st rm hDl hD hzD hfD hk rv
theorem dcomp_rd {ek ev ee : E} {etg : Tg} {eit : I} {own : List (PySem.Str × Nat)} {σ : L2.St} {H : Hp} {Q : VK} (he0 : ee = .dfrz (.comp ek ev etg eit) ∨ ee = .dcel (.comp ek ev etg eit)) (hown : own.map (·.2) = etg.slots) (hr : rdE (sx X XR W) Γ ee σ H Q) :
    tDc (rdI (sx X XR W) Γ eit) (gT X.K etg) (rdC (sx X XR noW) Γ .no) (rdE (sx X XR noW) Γ ek) (rdE (sx X XR noW) Γ ev) (own.map (·.2)) σ H Q := by
  obtain ⟨s, Z, f, M, rm, rs, h⟩ := hr
  refine ⟨s, Z, f, M, rm, rs, ?_⟩
  have h1 : ∃ fz : Bool, Post (sx X XR W) (RpW (sx X XR W)) σ Z f H ((evDc Γ (.comp ek ev etg eit) s M).bind fun (p, M) => if fz then (R.of (toDs p.2)).bind fun ds => .ok (.d (.dct p.1 ds), M) else .ok (.r M.length, M ++ [.dct p.1 p.2])) Q := by
    rcases he0 with rfl | rfl
    · exact ⟨true, by simp only [evE] at h; simpa using h⟩
    · exact ⟨false, by simp only [evE] at h; simpa using h⟩
  clear h he0
  obtain ⟨fz, h⟩ := h1
  simp only [evDc] at h
  cases q : evI Γ eit s M with
  | ok p =>
    obtain ⟨items, gs, M1⟩ := p
    rw [q] at h
    intro J H1 Z1 f1 st1 rm1 wk D hD
    rw [hown]
    refine dcomp_ok (W := W) rm1 (rs.mono st1.z st1.pre) wk ?_ D hD
    have h := Post.step st1 h
    simp only [R.bind_ok] at h
    cases q2 : (dcLoop (fun x => etg.put x (TN.wipe s etg.slots)) (fun s M => evE Γ ek s M) (fun s M => evE Γ ev s M) gs items M1 [] []).nox with
    | ok p =>
      obtain ⟨⟨ks, ws⟩, M2⟩ := p
      rw [q2] at h
      simp only [R.bind_ok] at h
      intro a kvs H' Z' f' st rm' e1 e2 e3 e4 e5 e6
      cases fz with
      | true =>
        simp only [if_true] at h
        obtain ⟨ds, e, h⟩ := Post.of h
        exact h (.ref a) H' _ f' (st.freeze e2 e3) (rm'.freeze e1 e3 e4) (.d (.dct upd_same e5 ((e6.ds e).mono (same_upd e3))))
      | false =>
        simp only [Bool.false_eq_true, if_false] at h
        refine h (.ref a) H' Z' (f' ++ [a]) (st.track e2) (rm'.track e1 e3 e4 ⟨kvs, e1, e5, e6.mono (Same.refl _) (List.prefix_append _ _)⟩) (.r ?_)
        show (f' ++ [a])[M2.length]? = some a
        rw [← rm'.len, List.getElem?_append_right (Nat.le_refl _)]
        simp
    | exn x s m =>
      have : ∀ r : R ((List Ky × List TN.W) × Store), r.nox ≠ .exn x s m := fun r => by cases r <;> exact fun z => nomatch z
      exact absurd q2 (this _)
    | stuck => rw [q2] at h; exact h
  | exn x s m => rw [q] at h; exact h
  | stuck => rw [q] at h; exact h
theorem gd_comp {kx vx : Expr} {scope : Scope} {own : List (PySem.Str × Nat)} {iter : Expr} {ek ev ee : E} {etg : Tg} {eit : I} (he0 : ee = .dfrz (.comp ek ev etg eit) ∨ ee = .dcel (.comp ek ev etg eit)) (hc : X.calm = true) (hN : X.N.Nodup) (hi : PI X tg iter (rdI (sx X XR W) Γ eit)) (ok : BlkOk X.N X.env.scope scope own) (hown : own.map (·.2) = etg.slots)
    (hg : ∀ (s : Shared) (H : Hp) (C : Addr) (cl : List (PySem.Str × Addr)) (fp : List Addr), PG (X.blk s H scope (compEnvC scope cl C X.env) fp) tg (gT X.K etg))
    (hk : ∀ (s : Shared) (H : Hp) (C : Addr) (cl : List (PySem.Str × Addr)) (fp : List Addr), PE (X.blk s H scope (compEnvC scope cl C X.env) fp) kx (rdE (sx X XR noW) Γ ek))
    (he : ∀ (s : Shared) (H : Hp) (C : Addr) (cl : List (PySem.Str × Addr)) (fp : List Addr), PE (X.blk s H scope (compEnvC scope cl C X.env) fp) vx (rdE (sx X XR noW) Γ ev)) (hs : ∀ x, foldedSetIterable iter X.env x = pure x) :
    PE X (.DictComp kx vx [⟨tg, iter, [], 0⟩] scope pos) (rdE (sx X XR W) Γ ee) := by
  have ht : ∀ (s : Shared) (H : Hp) (C : Addr) (cl : List (PySem.Str × Addr)) (fp : List Addr), PTs (X.blk s H scope (compEnvC scope cl C X.env) fp) [] (rdC (sx X XR noW) Γ .no) := fun s H C cl fp => gc_none
  exact (pe_dc hc hN hi ok hg ht hk he hs).weak fun σ H Q h => dcomp_rd he0 hown h
/-- name = {..} on one line, the name a local -/
theorem ps_dcSet {i : Nat} {y : PySem.Str} {py : Pos} {kx vx iter : Expr} {ifs : List Expr} {scope : Scope} {own : List (PySem.Str × Nat)} {p1 p2 : Pos} {wi : TI} {g : TG} {tt : TT} {tk tv : TE} (c1 : X.calm = true) (c2 : X.N.Nodup) (c3 : X.N[i]? = some y) (c4 : X.env.scope.names.lookup y = some .local)
    (c5 : swapsWith (.DictComp kx vx [⟨tg, iter, ifs, 0⟩] scope p1) (some (.Name y py)) p2.line X.env = pure true) (c6 : PI X tg iter wi) (c7 : BlkOk X.N X.env.scope scope own)
    (c8 : ∀ (s : Shared) (H : Hp) (C : Addr) (cl : List (PySem.Str × Addr)) (fp : List Addr), PG (X.blk s H scope (compEnvC scope cl C X.env) fp) tg g) (c9 : ∀ (s : Shared) (H : Hp) (C : Addr) (cl : List (PySem.Str × Addr)) (fp : List Addr), PTs (X.blk s H scope (compEnvC scope cl C X.env) fp) ifs tt)
    (d1 : ∀ (s : Shared) (H : Hp) (C : Addr) (cl : List (PySem.Str × Addr)) (fp : List Addr), PE (X.blk s H scope (compEnvC scope cl C X.env) fp) kx tk) (d2 : ∀ (s : Shared) (H : Hp) (C : Addr) (cl : List (PySem.Str × Addr)) (fp : List Addr), PE (X.blk s H scope (compEnvC scope cl C X.env) fp) vx tv)
    (d3 : ∀ x, foldedSetIterable iter X.env x = pure x) : PS X (.Assign [.Name y py] (.DictComp kx vx [⟨tg, iter, ifs, 0⟩] scope p1) p2) (tAsg (tDc wi g tt tk tv (own.map (·.2))) (gName i)) := ⟨fun pins s σ H D I h => by
  have h' : tDc wi g tt tk tv (own.map (·.2)) σ H fun x H1 => gName i x σ H1 D.nx := h
  rw [exec_Assign_Name_used _ _ _ _ c5]; refine wpAny_bind (wpAny_standAt (wpAny_bind ?_))
  show wpAny _ X.A (do let _ ← comprehension (.DictComp kx vx [⟨tg, iter, ifs, 0⟩] scope p1) scope X.env (firstIterPos [⟨tg, iter, ifs, 0⟩] p1) newDict false (eval iter X.env) (some (assign (.Name y py) X.env))) _ _ s
  refine wpAny_bind (thn (dc_core (Qf := fun _ t => SP X pins D .next t) c1 c2 I c6 c7 c8 c9 d1 d2 d3 h' fun L C t m H' J q nm fo => ?_) fun _ t hq => wpAny_pure (wpAny_pure hq))
  show wpAny _ _ (assign (.Name y py) X.env (.ref L)) _ _ _
  refine wpAny_assign_Name (store_ok2 (v := V.ref L) J c2 c3 (.inl c4) rfl (fun t2 J2 ⟨a, sb, ha⟩ => ?_) (.inr c4))
  have ne : C ≠ a := by
    rcases ha with z | z
    · rw [z]; exact fo.2.1
    · exact fun e => fo.2.2.2.2.1 y a z e.symm
  exact ⟨m, nm.sameBut sb ne, fun h3 sb3 => ⟨_, H', J2.turned (t' := t2.toks) (fun b o hb e => (sb3.2 b hb).trans e) fo.1 fo.2.1 fo.2.2.2.1 fo.2.2.2.2.1 fo.2.2.2.2.2, q⟩⟩⟩
theorem sw_dc {kx vx : Expr} {gs : List Comprehension} {scope : Scope} {p1 py : Pos} {y : PySem.Str} {l : Nat} {env : PySem.Env} (k1 : env.scope.kind = .function) (k2 : env.scope.names.lookup y = some .local) (k3 : (py.line == p1.line) = true)
    (k4 : (scope.names.any fun (n, k) => n == y && (k == .local || k == .cell)) = false) : swapsWith (.DictComp kx vx gs scope p1) (some (.Name y py)) l env = pure true := by
  have e1 : env.kindOf y = some .local := k2
  have e2 : env.blockKind = .function := by unfold PySem.Env.blockKind; rw [k1]; rfl
  simp only [swapsWith, e2, e1, k4, Expr.pos, k3]
  rfl
theorem sw_cell {e : Expr} {py : Pos} {y : PySem.Str} {l : Nat} {env : PySem.Env} (k2 : env.scope.names.lookup y = some .cell) : swapsWith e (some (.Name y py)) l env = pure false := by
  have e1 : env.kindOf y = some .cell := k2
  have e2 : (env.kindOf y == some .local) = false := by rw [e1]; rfl
  cases e <;> first
    | rfl
    | simp only [swapsWith, e2, Bool.and_false, Bool.false_and]
end
end TN

/-! TNdd: dict displays with texts as keys. -/
namespace TN
open PySem PySem.Spec PyProof.Rows L2
/-- keys that are texts -/
def lits : List Tx → Es
  | [] => .nil
  | t :: ts => .cons (.lit (.str t)) (lits ts)
theorem ev_lits (Γ : Ctx) (s : Env) (M : Store) : ∀ ts : List Tx, evEs Γ (lits ts) s M = .ok (ts.map fun t => TN.W.d (.str t), M)
  | [] => rfl
  | t :: ts => by
    have := ev_lits Γ s M ts
    simp only [lits, evEs, evE, R.bind_ok, this, List.map_cons]
theorem kys_lits : ∀ ts : List Tx, kysOf (ts.map fun t => TN.W.d (.str t)) = some (ts.map Ky.s)
  | [] => rfl
  | t :: ts => by simp only [List.map_cons, kysOf, kyOf, Option.bind_some, kys_lits ts, Option.map_some]
section
variable {X : Cx} {XR : XRT} {W : WX} {Γ : Ctx} {pos : Pos}
def trsOf (X : Cx) (XR : XRT) (W : WX) (Γ : Ctx) : List Tx → Es → List (TE × TE)
  | t :: ts, .cons e es => (rdE (sx X XR W) Γ (.lit (.str t)), rdE (sx X XR W) Γ e) :: trsOf X XR W Γ ts es
  | _, _ => []
theorem pairs_ok {Q : List (V × V) → Hp → Prop} {p : Addr} {s : Env} {σ : L2.St} : ∀ (ts : List Tx) (es : Es) {Z H : Hp} {f : List Addr} {M M' : Store} {ws : List TN.W} {o : HO}, ts.length = es.len → RelM X.K H Z f M → RelS X.K Z f σ s → H p = some o → Z p = none → p ∉ f → evEs Γ es s M = .ok (ws, M') →
    (∀ vs H' Z' f', Stp Z f H Z' f' H' → RelM X.K H' Z' f' M' → RepWs X.K Z' f' vs ws → H' p = some o → Z' p = none → p ∉ f' → Q ((ts.map fun t => V.str (toS t)).zip vs) H') → tPairs (trsOf X XR W Γ ts es) σ H Q
  | [], .nil, Z, H, f, M, M', ws, o, _, rm, rs, h1, h2, h3, h, k => by
    simp only [evEs] at h
    cases h
    exact k [] H Z f Stp.refl rm .nil h1 h2 h3
  | [], .cons _ _, _, _, _, _, _, _, _, hl, _, _, _, _, _, _, _ => by simp [Es.len] at hl
  | _ :: _, .nil, _, _, _, _, _, _, _, hl, _, _, _, _, _, _, _ => by simp [Es.len] at hl
  | t :: ts, .cons e es, Z, H, f, M, M', ws, o, hl, rm, rs, h1, h2, h3, h, k => by
    simp only [evEs] at h
    cases q : evE Γ e s M with
    | stuck => rw [q] at h; cases h
    | exn _ _ _ => rw [q] at h; cases h
    | ok r =>
      obtain ⟨w, M1⟩ := r
      rw [q] at h
      simp only [R.bind_ok] at h
      cases q2 : evEs Γ es s M1 with
      | stuck => rw [q2] at h; cases h
      | exn _ _ _ => rw [q2] at h; cases h
      | ok r2 =>
        obtain ⟨ws2, M2⟩ := r2
        rw [q2] at h
        simp only [R.bind_ok] at h
        cases h
        refine ⟨s, Z, f, M, rm, rs, ?_⟩
        show Post _ _ _ _ _ _ (.ok (TN.W.d (.str t), M)) _
        intro b H1 Z1 f1 st1 rm1 rb
        have eb : b = V.str (toS t) := by
          cases rb with
          | d rb => cases rb; rfl
        subst eb
        obtain ⟨a1, a2, a3⟩ := st1.stay h1 h2 h3
        have rs1 := rs.mono st1.z st1.pre
        refine ⟨s, Z1, f1, M, rm1, rs1, ?_⟩
        rw [q]
        intro y H2 Z2 f2 st2 rm2 ry
        obtain ⟨b1, b2, b3⟩ := st2.stay a1 a2 a3
        refine pairs_ok ts es (by simpa [Es.len] using hl) rm2 (rs1.mono st2.z st2.pre) b1 b2 b3 q2 fun vs H' Z' f' st rm' rv c1 c2 c3 => ?_
        exact k (y :: vs) H' Z' f' ((st1.trans st2).trans st) rm' (.cons (ry.mono st.z st.pre) rv) c1 c2 c3
theorem merge_rep {K : PySem.W.Frag} {Z : Hp} {f : List Addr} : ∀ (ts : List Tx) (vs : List V) (ws : List TN.W) (kvs : List (Key × V)) (ks : List Ky) (us : List TN.W), RepWs K Z f vs ws → kvs.map (·.1) = ks.map kyK → RepWs K Z f (kvs.map (·.2)) us →
    (mergeK kvs ((ts.map fun t => kyK (.s t)).zip vs)).map (·.1) = (dputs (ts.map Ky.s) ws ks us).1.map kyK ∧ RepWs K Z f ((mergeK kvs ((ts.map fun t => kyK (.s t)).zip vs)).map (·.2)) (dputs (ts.map Ky.s) ws ks us).2
  | [], vs, ws, kvs, ks, us, _, h1, h2 => by
    cases ws <;> exact ⟨h1, h2⟩
  | t :: ts, _, _, kvs, ks, us, .nil, h1, h2 => ⟨h1, h2⟩
  | t :: ts, v :: vs, w :: ws, kvs, ks, us, .cons r rr, h1, h2 => by
    obtain ⟨g1, g2⟩ := dput_rep r (.s t) h1 h2
    exact merge_rep ts vs ws _ _ _ rr g1 g2
theorem gd_disp {keys : List (Option Expr)} {values : List Expr} {ts : List Tx} {es : Es} {ee : E} (he : ee = .dfrz (.disp (lits ts) es) ∨ ee = .dcel (.disp (lits ts) es)) (hp : PPs X pos keys values (trsOf X XR W Γ ts es)) (hl : ts.length = es.len) (hall : keys.all (·.isSome) = true) (hv : keys.length = values.length) (h0 : keys ≠ []) (h15 : keys.length ≤ 15) (ht : ts.length ≤ 15) :
    PE X (.Dict keys values pos) (rdE (sx X XR W) Γ ee) := by
  refine (pe_disp hp hall hv h0 h15).weak fun σ H Q ⟨s, Z, f, M, rm, rs, h⟩ p hpn => ?_
  have h1 : ∃ fz : Bool, Post (sx X XR W) (RpW (sx X XR W)) σ Z f H ((evDc Γ (.disp (lits ts) es) s M).bind fun (p, M) => if fz then (R.of (toDs p.2)).bind fun ds => .ok (.d (.dct p.1 ds), M) else .ok (.r M.length, M ++ [.dct p.1 p.2])) Q := by
    rcases he with rfl | rfl
    · exact ⟨true, by simp only [evE] at h; simpa using h⟩
    · exact ⟨false, by simp only [evE] at h; simpa using h⟩
  clear h he
  obtain ⟨fz, h⟩ := h1
  simp only [evDc, ev_lits, R.bind_ok] at h
  cases q : evEs Γ es s M with
  | stuck => rw [q] at h; exact h.elim
  | exn _ _ _ => rw [q] at h; exact h.elim
  | ok r =>
    obtain ⟨ws, M'⟩ := r
    rw [q] at h
    simp only [R.bind_ok, kys_lits, R.of_some, R.nox] at h
    refine pairs_ok ts es hl (rm.scratch (rm.zn hpn) (rm.nin hpn) (.dK [])) rs upd_same (rm.zn hpn) (rm.nin hpn) q fun vs H' Z' f' st rm' rv c1 c2 c3 => ⟨c1, (ts.map fun t => kyK (.s t)).zip vs, ?_, ?_, ?_⟩
    · have : ∀ (ts : List Tx) (vs : List V), (ts.map fun t => V.str (toS t)).zip vs = ((ts.map fun t => kyK (.s t)).zip vs).map fun kv => (kV kv.1, kv.2) := fun ts => by
        induction ts with
        | nil => intro vs; rfl
        | cons t ts ih =>
          intro vs
          cases vs with
          | nil => rfl
          | cons v vs => simp only [List.map_cons, List.zip_cons_cons, ih]; rfl
      exact this ts vs
    · simp only [List.length_zip, List.length_map]; omega
    · obtain ⟨g1, g2⟩ := merge_rep (K := X.K) (Z := Z') (f := f') ts vs ws [] [] [] rv rfl .nil
      have st2 : Stp Z f H Z' f' (upd H' p (.dK (mergeK [] ((ts.map fun t => kyK (.s t)).zip vs)))) := by
        refine (Stp.trans ?_ st).scratch hpn _
        exact Stp.refl.scratch hpn _
      have rm2 := rm'.scratch c2 c3 (.dK (mergeK [] ((ts.map fun t => kyK (.s t)).zip vs)))
      cases fz with
      | true =>
        simp only [if_true] at h
        obtain ⟨ds, e, h⟩ := Post.of h
        exact h (.ref p) _ _ f' (st2.freeze hpn c2) (rm2.freeze upd_same c2 c3) (.d (.dct upd_same g1 ((g2.ds e).mono (same_upd c2))))
      | false =>
        simp only [Bool.false_eq_true, if_false] at h
        refine h (.ref p) _ Z' (f' ++ [p]) (st2.track hpn) (rm2.track upd_same c2 c3 ⟨_, upd_same, g1, g2.mono (Same.refl _) (List.prefix_append _ _)⟩) (.r ?_)
        show (f' ++ [p])[M'.length]? = some p
        rw [← rm'.len, List.getElem?_append_right (Nat.le_refl _)]
        simp
end
end TN

/-! TNk: the own syntax says the same as the text's. -/
namespace TN
open PySem PySem.Spec PyProof.Rows L2
structure Ag where
  N : List PySem.Str
  sc : Scope
  fn : PySem.Str → Bool
  nm : Nat → Option (PySem.Str × Nat)
  cn : Nat → Option PySem.Str
def Ag.blk (A : Ag) (scope : Scope) : Ag := { A with sc := relS scope A.sc, fn := fun x => scope.names.lookup x == some .cell }
def okN (x : PySem.Str) : Bool := !(x == ("__debug__" : PySem.Str)) && !(x == ("__classdict__" : PySem.Str))
def Ag.vis (A : Ag) (x : PySem.Str) : Bool := decide (A.sc.names.lookup x = some .local) || decide (A.sc.names.lookup x = some .cell) || decide (A.sc.names.lookup x = some .free)
def Ag.glo (A : Ag) (x : PySem.Str) : Bool := decide (A.sc.names.lookup x = some .globalImplicit)
def Ag.loc (A : Ag) (x : PySem.Str) : Bool := decide (A.sc.names.lookup x = some .local) || (decide (A.sc.names.lookup x = some .cell) && A.fn x)
def agNs (A : Ag) : List Nat → List Expr → Bool
  | [], [] => true
  | i :: is, .Name y _ :: xs => decide (A.N[i]? = some y) && A.loc y && agNs A is xs
  | _, _ => false
def agTg (A : Ag) : Tg → Expr → Bool
  | .nm i, .Name y _ => decide (A.N[i]? = some y) && A.loc y
  | .tu is, .Tuple xs _ _ => agNs A is xs
  | _, _ => false
def noSup : Expr → Bool
  | .Call _ _ _ _ => false
  | _ => true
def noSet : Expr → Bool
  | .Set _ _ _ => false
  | _ => true
def litC : D → Const → Bool
  | .non, .none => true
  | .bl b, .bool c => b == c
  | .int i, .int j => decide (i = j)
  | .str s, .str t => decide (toS s = t)
  | _, _ => false
def Ag.own (A : Ag) (is : List Nat) : List (PySem.Str × Nat) := is.map fun i => ((A.N[i]?).getD default, i)
mutual
/-- a test of this shape is known -/
def agT : E → Expr → Bool
  | .inv a, x => (match x with
    | .UnaryOp .Not l _ => agT a l
    | _ => false)
  | .and es, x => (match x with
    | .BoolOp .And xs _ => agTs es xs
    | _ => false)
  | .or es, x => (match x with
    | .BoolOp .Or xs _ => agTs es xs
    | _ => false)
  | .cmp _ _ _, _ => true
  | .cmp2 _ _ _ _ _, _ => true
  | .cin _ _, _ => true
  | _, x => plT x
def agTs : Es → List Expr → Bool
  | .nil, xs => (match xs with
    | [] => true
    | _ => false)
  | .cons e es, xs => (match xs with
    | y :: ys => agT e y && agTs es ys
    | _ => false)
end
/-- keys that are texts -/
def agKs : Es → List (Option Expr) → Bool
  | .nil, [] => true
  | .cons (.lit (.str t)) es, some (.Constant (.str u) _ _) :: xs => decide (toS t = u) && agKs es xs
  | _, _ => false
theorem agKs_lits : ∀ (ks : Es) (xs : List (Option Expr)), agKs ks xs = true → ∃ ts, ks = lits ts ∧ xs.length = ts.length ∧ xs.all (·.isSome) = true
  | .nil, [], _ => ⟨[], rfl, rfl, rfl⟩
  | .nil, _ :: _, h => by simp [agKs] at h
  | .cons e es, xs, h => by
    unfold agKs at h
    split at h
    · exact absurd ‹Es.cons e es = Es.nil› (fun q => nomatch q)
    · rename_i t es' u j p xs' q
      cases q
      rw [Bool.and_eq_true] at h
      obtain ⟨ts, h1, h2, h3⟩ := agKs_lits es xs' h.2
      exact ⟨t :: ts, by rw [h1]; rfl, by simp [h2], by simp [h3]⟩
    · cases h
def agDs (ks : Es) (n : Nat) (keys : List (Option Expr)) : Bool := agKs ks keys && decide (ks.len = n) && decide (1 ≤ n) && decide (n ≤ 15)
mutual
def agE : E → Ag → Expr → Bool
  | .loc i, A, x => (match x with
    | .Name y _ => decide (A.N[i]? = some y) && A.vis y && okN y
    | _ => false)
  | .con g, A, x => (match x with
    | .Name y _ => decide (A.cn g = some y) && A.glo y && okN y
    | _ => false)
  | .cin g a, A, x => (match x with
    | .Compare l [op] [.Name y p] _ => decide (op = .In) && agE a A l && decide (A.cn g = some y) && A.glo y && okN y && !behindInMarks op (.Name y p)
    | _ => false)
  | .cidx g a, A, x => (match x with
    | .Subscript (.Name y _) r _ => decide (A.cn g = some y) && A.glo y && okN y && agE a A r && plIx r
    | _ => false)
  | .lit d, A, x => (match x with
    | .Constant k _ _ => litC d k
    | _ => false)
  | .no, _, _ => false
  | .tup es, A, x => (match x with
    | .Tuple xs _ _ => agEs es A xs && decide (es.len ≤ 1000)
    | _ => false)
  | .frz l, A, x => agL l A x
  | .cel l, A, x => agL l A x
  | .dfrz c, A, x => (match c with
    | .disp ks vs => (match x with
      | .Dict keys values _ => agDs ks vs.len keys && agEs vs A values
      | _ => false)
    | .comp k v tg it => (match x with
      | .DictComp kx vx [⟨t, i, [], j⟩] scope _ => decide (j = 0) && agI it A t i && noSet i && agTg (A.blk scope) tg t && blkC A.N A.sc scope (A.own tg.slots) && agE k (A.blk scope) kx && agE v (A.blk scope) vx
      | _ => false))
  | .dcel c, A, x => (match c with
    | .disp .nil .nil => (match x with
      | .Dict [] [] _ => true
      | _ => false)
    | .disp ks vs => (match x with
      | .Dict keys values _ => agDs ks vs.len keys && agEs vs A values
      | _ => false)
    | .comp k v tg it => (match x with
      | .DictComp kx vx [⟨t, i, [], j⟩] scope _ => decide (j = 0) && agI it A t i && noSet i && agTg (A.blk scope) tg t && blkC A.N A.sc scope (A.own tg.slots) && agE k (A.blk scope) kx && agE v (A.blk scope) vx
      | _ => false))
  | .bin o a b, A, x => (match x with
    | .BinOp l op r _ => decide (op = pyB o) && agE a A l && agE b A r
    | _ => false)
  | .cmp o a b, A, x => (match x with
    | .Compare l [op] [r] _ => decide (op = pyC o) && agE a A l && agE b A r && !behindInMarks op r
    | _ => false)
  | .cmp2 o p a b c, A, x => (match x with
    | .Compare l [op, op'] [r, t] _ => decide (op = pyC o) && decide (op' = pyC p) && agE a A l && agE b A r && agE c A t && !lastMarks [op, op'] [r, t]
    | _ => false)
  | .neg a, A, x => (match x with
    | .UnaryOp .USub l _ => agE a A l
    | _ => false)
  | .inv a, A, x => (match x with
    | .UnaryOp .Not l _ => agE a A l
    | _ => false)
  | .and es, A, x => (match x with
    | .BoolOp .And xs _ => agEs es A xs && decide (1 ≤ es.len)
    | _ => false)
  | .or es, A, x => (match x with
    | .BoolOp .Or xs _ => agEs es A xs && decide (1 ≤ es.len)
    | _ => false)
  | .ifx c a b, A, x => (match x with
    | .IfExp t l r _ => agE c A t && agT c t && agE a A l && agE b A r
    | _ => false)
  | .idx a i, A, x => (match x with
    | .Subscript l r _ => agE a A l && agE i A r && plIx r
    | _ => false)
  | .sl a lo hi, A, x => (match x with
    | .Subscript l (.Slice p q none _) _ => agE a A l && (match p with | none => lo.isNo | some y => !lo.isNo && agE lo A y) && (match q with | none => hi.isNo | some y => !hi.isNo && agE hi A y)
    | _ => false)
  | .rev a, A, x => (match x with
    | .Subscript l (.Slice none none (some (.UnaryOp .USub (.Constant (.int j) _ _) _)) _) _ => decide (j = 1) && agE a A l
    | _ => false)
  | .call g es, A, x => (match x with
    | .Call (.Name y _) xs [] _ => decide (A.nm g = some (y, es.len)) && A.glo y && okN y && agEs es A xs && decide (1 ≤ es.len)
    | _ => false)
  | .bi b es, A, x => (match x with
    | .Call (.Name y _) xs [] _ => decide (y = biName b) && A.glo y && biOk b && agEs es A xs && decide (1 ≤ es.len)
    | _ => false)
  | .isi a t, A, x => (match x with
    | .Call (.Name y _) [l, .Name z _] [] _ => decide (y = ("isinstance" : PySem.Str)) && decide (z = (tyName t : PySem.Str)) && A.glo y && A.glo z && plE l && agE a A l
    | _ => false)
  | .mth m o es, A, x => (match x with
    | .Call (.Attribute l y p) xs [] c => decide (y = mtName m) && mtOk m && noSup l && agE o A l && agEs es A xs && (p.endLine == c.line) && decide (es.len < 20)
    | _ => false)
def agEs : Es → Ag → List Expr → Bool
  | .nil, _, xs => (match xs with
    | [] => true
    | _ => false)
  | .cons e es, A, xs => (match xs with
    | y :: ys => plE y && agE e A y && agEs es A ys
    | _ => false)
def agL : L → Ag → Expr → Bool
  | .disp es, A, x => (match x with
    | .List xs _ => agEs es A xs && decide (es.len ≤ 1000)
    | _ => false)
  | .cat a b, A, x => (match x with
    | .BinOp l .Add r _ => agE a A l && agE b A r
    | _ => false)
  | .bi b es, A, x => (match x with
    | .Call (.Name y _) xs [] _ => decide (y = lbName b) && A.glo y && agEs es A xs && decide (1 ≤ es.len)
    | _ => false)
  | .comp elt tg it c, A, x => (match x with
    | .ListComp e [⟨t, i, ifs, j⟩] scope _ => decide (j = 0) && agI it A t i && noSet i && agTg (A.blk scope) tg t && blkC A.N A.sc scope (A.own tg.slots) &&
      (match ifs with | [] => c.isNo | [y] => !c.isNo && agE c (A.blk scope) y && agT c y | _ => false) && agE elt (A.blk scope) e
    | _ => false)
  | .sl a lo hi, A, x => (match x with
    | .Subscript l (.Slice p q none _) _ => agE a A l && (match p with | none => lo.isNo | some y => !lo.isNo && agE lo A y) && (match q with | none => hi.isNo | some y => !hi.isNo && agE hi A y)
    | _ => false)
def agI : I → Ag → Expr → Expr → Bool
  | .of e, A, _, x => agE e A x
  | .zip a b, A, t, x => (match t with
    | .Tuple _ _ _ => (match x with
      | .Call (.Name y _) [l, r] [] _ => decide (y = ("zip" : PySem.Str)) && A.glo y && plE l && plE r && agE a A l && agE b A r
      | _ => false)
    | _ => false)
  | .enum a, A, t, x => (match t with
    | .Tuple _ _ _ => (match x with
      | .Call (.Name y _) [l] [] _ => decide (y = ("enumerate" : PySem.Str)) && A.glo y && plE l && agE a A l
      | _ => false)
    | _ => false)
  | .rng es, A, _, x => (match x with
    | .Call (.Name y _) xs [] _ => decide (y = ("range" : PySem.Str)) && A.glo y && agEs es A xs && (decide (es.len = 1) || decide (es.len = 2))
    | _ => false)
  | .items _, _, _, _ => false
end
/-! ### what a context must be -/
def bltNames : List PySem.Str := ["isinstance", "range", "zip", "enumerate", "int", "str", "tuple", "bool", "list", "len", "all", "any", "sum", "abs", "max", "min", "ord", "sorted"]
/-- what a def promises -/
def spW (K : PySem.W.Frag) (XR : XRT) (fn : Nat → List TN.W → Store → R (TN.W × Store)) (g n : Nat) : Sp := fun vs H Q E => vs.length = n ∧ ∃ ws Z f M, RelM K H Z f M ∧ RepWs K Z f vs ws ∧
  Post ⟨K, XR, fun cls d _ H' => E cls d H'⟩ (fun _ Z f v w => RepW K Z f v w) [] Z f H (fn g ws M) Q
/-- a dict of the module with texts as keys, integers as values -/
structure KD (K : PySem.W.Frag) (w : World) (a : Addr) (ks : List Tx) (is : List Int) : Prop where
  kd : ∃ es n, KDict K w a es n
  no : ∀ t, t ∉ ks → PySem.W.nsIn K a (toS t) = some none
  has : ∀ t, t ∈ ks → ∃ u, PySem.W.nsIn K a (toS t) = some (some u)
  at_ : ∀ t i, dget (Ky.s t) (ks.map Ky.s) (is.map D.int) = some (.int i) → ∃ tk, PySem.W.nsIn K a (toS t) = some (some (.int i tk))
/-- what a constant of the module is -/
def CnOk (K : PySem.W.Frag) (w : World) (mg : PySem.Str → Option Value) (x : PySem.Str) (o : Option D) : Prop :=
  o = none ∨ (∃ v u d, mg x = some u ∧ RelV v u ∧ o = some d ∧ conSem (some d) = some d ∧ ∀ H Z f M, RelM K H Z f M → RepD K Z v d) ∨ ∃ a ks is, o = some (.dct (ks.map Ky.s) (is.map D.int)) ∧ mg x = some (.ref a) ∧ KD K w a ks is
structure XO (XR : XRT) (W : WX) (Γ : Ctx) (A : Ag) (k : Nat) (X : Cx) : Prop where
  calm : X.calm = true
  nd : X.N.Nodup
  hN : X.N = A.N
  hsc : X.env.scope = A.sc
  hfn : ∀ x, A.fn x = true → X.fn x = true
  room : Room k X.A
  tk : L2N.Takes X W
  fns : ∀ g x n, A.nm g = some (x, n) → ∃ f fd ps, FnOk X.prog X.w X.K X.mg X.base (L2N.CX X.prog X.w) k f fd ps (spW X.K XR Γ.fn g n) ∧ X.mg x = some (.ref f) ∧ PySem.W.keepIn X.K (.ref f) = true ∧ Binds X.K fd ps [] ∧ ps.length = n
  cns : ∀ g x, A.cn g = some x → CnOk X.K X.w X.mg x (Γ.con g)
  blt : ∀ x, x ∈ bltNames → X.mg x = none
theorem XO.blk {XR : XRT} {W : WX} {Γ : Ctx} {A : Ag} {k : Nat} {X : Cx} (o : XO XR W Γ A k X) (scope : Scope) (s : Shared) (H : Hp) (C : Addr) (cl : List (PySem.Str × Addr)) (fp : List Addr) :
    XO XR noW Γ (A.blk scope) k (X.blk s H scope (compEnvC scope cl C X.env) fp) where
  calm := o.calm
  nd := o.nd
  hN := o.hN
  hsc := by show relS scope X.env.scope = relS scope A.sc; rw [o.hsc]
  hfn _ h := h
  room := o.room
  tk := fun u s' h => by
    obtain ⟨_, _, _, _, _, _, _, _, _, _, _, _, _, _, _, _, w⟩ := h
    exact w.elim
  fns := o.fns
  cns := o.cns
  blt := o.blt
theorem isi_mem (t : Ty) : (tyName t : PySem.Str) ∈ bltNames := by cases t <;> decide +kernel
theorem bi_mem (b : Bi) : biName b ∈ bltNames := by cases b <;> decide +kernel
theorem lb_mem (b : Lb) : lbName b ∈ bltNames := by cases b <;> decide +kernel
section
variable {XR : XRT} {W : WX} {Γ : Ctx} {A : Ag} {k : Nat} {X : Cx} {pos : Pos}
theorem XO.hu (o : XO XR W Γ A k X) : X.A.units + 200 < cLine := by have := o.room.un; omega
theorem XO.gl (o : XO XR W Γ A k X) {x : PySem.Str} (h : A.glo x = true) : Gl X x := by
  have := of_decide_eq_true h
  unfold Gl Env.kindOf
  rw [o.hsc]; exact this
theorem XO.visible (o : XO XR W Γ A k X) {x : PySem.Str} (h : A.vis x = true) : Vis X.env.scope x := by
  unfold Ag.vis at h
  rw [Bool.or_eq_true, Bool.or_eq_true, decide_eq_true_eq, decide_eq_true_eq, decide_eq_true_eq] at h
  rw [o.hsc]
  rcases h with (h | h) | h
  · exact .inl h
  · exact .inr (.inl h)
  · exact .inr (.inr h)
theorem XO.local_ (o : XO XR W Γ A k X) {x : PySem.Str} (h : A.loc x = true) : Loc X.env.scope x ∧ (X.fn x = true ∨ X.env.scope.names.lookup x = some .local) := by
  unfold Ag.loc at h
  rw [Bool.or_eq_true, Bool.and_eq_true, decide_eq_true_eq, decide_eq_true_eq] at h
  rw [o.hsc]
  rcases h with h | ⟨h, h2⟩
  · exact ⟨.inl h, .inr h⟩
  · exact ⟨.inr h, .inl (o.hfn x h2)⟩
theorem okN_ok {x : PySem.Str} (h : okN x = true) : (x == ("__debug__" : PySem.Str)) = false ∧ (x == ("__classdict__" : PySem.Str)) = false := by
  unfold okN at h
  rw [Bool.and_eq_true, Bool.not_eq_true', Bool.not_eq_true'] at h
  exact h
theorem ge_call {g : Nat} {y : PySem.Str} {p : Pos} {e : Expr} {es : List Expr} {ees : Es} (o : XO XR W Γ A k X) (hg : A.nm g = some (y, ees.len)) (gl : Gl X y) (hd : (y == ("__debug__" : PySem.Str)) = false) (hp : (e :: es).all plE = true) (ha : PA X (e :: es) (rdEs (sx X XR W) Γ ees)) :
    PE X (.Call (.Name y p) (e :: es) [] pos) (rdE (sx X XR W) Γ (.call g ees)) := by
  obtain ⟨f, fd, ps, F, hm, hk, hb, hl⟩ := o.fns g y _ hg
  have hp' := hp
  rw [List.all_cons, Bool.and_eq_true] at hp'
  refine (pe_callS F o.room gl hm hk hb (fun σ => L2N.passAt o.tk σ) ha hd (star_cons hp'.1) (star_any hp'.2)).weak fun σ H Q ⟨s, Z, f, M, rm, rs, h⟩ => ?_
  simp only [evE] at h
  refine rd.args rm rs h fun vs H1 ws Z1 f1 M1 st1 rm1 rs1 rp1 hn h => ?_
  refine ⟨by rw [rp1.length, hn], ws, Z1, f1, M1, rm1, rp1, ?_⟩
  simp only at h
  cases q : Γ.fn g ws M1 with
  | ok p => rw [q] at h; exact h
  | exn x s m => rw [q] at h; exact h
  | stuck => rw [q] at h; exact h
theorem pgs_ok (o : XO XR W Γ A k X) : ∀ {is : List Nat} {xs : List Expr}, agNs A is xs = true → PGs X xs (gN is) ∧ (assignEach xs X.env).length = is.length ∧ (assignEach xs X.env).findIdx? (·.1) = none
  | [], [], _ => ⟨pgs_nil, rfl, rfl⟩
  | [], _ :: _, h => by simp [agNs] at h
  | _ :: _, [], h => by simp [agNs] at h
  | i :: is, x :: xs, h => by
    cases x <;> first | (simp [agNs] at h; done) | skip
    rename_i y p
    simp only [agNs, Bool.and_eq_true, decide_eq_true_eq] at h
    obtain ⟨⟨h1, h2⟩, h3⟩ := h
    obtain ⟨q1, q2, q3⟩ := pgs_ok o h3
    obtain ⟨l1, l2⟩ := o.local_ h2
    refine ⟨pgs_cons (pg_name o.nd (by rw [o.hN]; exact h1) l1 l2) q1 rfl, ?_, ?_⟩
    · show (assignEach xs X.env).length + 1 = _
      rw [q2]; rfl
    · show List.findIdx? _ ((false, _) :: assignEach xs X.env) = none
      rw [List.findIdx?_cons]
      simp [q3]
theorem pg_ok (o : XO XR W Γ A k X) {t : Tg} {x : Expr} (h : agTg A t x = true) : PG X x (gT X.K t) := by
  cases t with
  | nm i =>
    cases x <;> first | (simp [agTg] at h; done) | skip
    rename_i y p
    simp only [agTg, Bool.and_eq_true, decide_eq_true_eq] at h
    obtain ⟨l1, l2⟩ := o.local_ h.2
    exact pg_name o.nd (by rw [o.hN]; exact h.1) l1 l2
  | tu is =>
    cases x <;> first | (simp [agTg] at h; done) | skip
    rename_i es kk p
    simp only [agTg] at h
    obtain ⟨q1, q2, q3⟩ := pgs_ok o h
    exact pg_tup o.calm q1 q2 q3
theorem noSup_ok {l : Expr} (h : noSup l = true) (name : PySem.Str) (env : PySem.Env) : attributeBase l name env (eval l env) = eval l env := by
  cases l <;> first | rfl | cases h
theorem noSet_ok {l : Expr} (h : noSet l = true) (env : PySem.Env) (x : Value) : foldedSetIterable l env x = pure x := by
  cases l <;> first | rfl | cases h
theorem agEs_len : ∀ {es : Es} {A : Ag} {xs : List Expr}, agEs es A xs = true → xs.length = es.len ∧ xs.all plE = true
  | .nil, A, xs, h => by
    cases xs with
    | nil => exact ⟨rfl, rfl⟩
    | cons _ _ => simp [agEs] at h
  | .cons e es, A, xs, h => by
    cases xs with
    | nil => simp [agEs] at h
    | cons y ys =>
      simp only [agEs, Bool.and_eq_true] at h
      obtain ⟨i1, i2⟩ := agEs_len h.2
      exact ⟨by rw [List.length_cons, i1]; rfl, by rw [List.all_cons, h.1.1, i2]; rfl⟩
end
end TN

/-! TNl: soundness of expressions. -/
namespace TN
open PySem PySem.Spec PyProof.Rows L2
section
variable (XR : XRT) (Γ : Ctx) (k : Nat)
def OkE (e : E) : Prop := ∀ (W : WX) (A : Ag) (X : Cx), XO XR W Γ A k X → ∀ x, agE e A x = true → PE X x (rdE (sx X XR W) Γ e) ∧ (agT e x = true → PT X x (rdT (sx X XR W) Γ e))
def OkEs (es : Es) : Prop := ∀ (W : WX) (A : Ag) (X : Cx), XO XR W Γ A k X → ∀ xs, agEs es A xs = true → PA X xs (rdEs (sx X XR W) Γ es) ∧ (1 ≤ es.len → ∀ pos, PE X (.BoolOp .And xs pos) (rdE (sx X XR W) Γ (.and es)) ∧ PE X (.BoolOp .Or xs pos) (rdE (sx X XR W) Γ (.or es)) ∧
  (agTs es xs = true → PW X (.BoolOp .And xs pos) (rdT (sx X XR W) Γ (.and es)) ∧ PW X (.BoolOp .Or xs pos) (rdT (sx X XR W) Γ (.or es))))
def OkL (l : L) : Prop := ∀ (W : WX) (A : Ag) (X : Cx), XO XR W Γ A k X → ∀ x, agL l A x = true → PE X x (rdL (sx X XR W) Γ l)
def OkI (it : I) : Prop := ∀ (W : WX) (A : Ag) (X : Cx), XO XR W Γ A k X → ∀ t x, agI it A t x = true → PI X t x (rdI (sx X XR W) Γ it)
end
section
variable {XR : XRT} {Γ : Ctx} {k : Nat}
theorem okE_of {e : E} (h : ∀ (W : WX) (A : Ag) (X : Cx), XO XR W Γ A k X → ∀ x, agE e A x = true → PE X x (rdE (sx X XR W) Γ e)) (ht : ∀ x, agT e x = plT x) : OkE XR Γ k e := fun W A X o x g => by
  have p := h W A X o x g
  refine ⟨p, fun t => gt_val p (plT_ok ?_)⟩
  rw [← ht]; exact t
theorem okEs_nil : OkEs XR Γ k .nil := fun W A X o xs g => by
  cases xs with
  | nil => exact ⟨ga_nil, fun h => absurd h (by simp [Es.len])⟩
  | cons _ _ => simp [agEs] at g
theorem okEs_cons {e : E} {es : Es} (he : OkE XR Γ k e) (hes : OkEs XR Γ k es) : OkEs XR Γ k (.cons e es) := fun W A X o xs g => by
  cases xs with
  | nil => simp [agEs] at g
  | cons y ys =>
    simp only [agEs, Bool.and_eq_true] at g
    obtain ⟨⟨g1, g2⟩, g3⟩ := g
    obtain ⟨p1, p2⟩ := he W A X o y g2
    obtain ⟨q1, q2⟩ := hes W A X o ys g3
    refine ⟨ga_cons g1 p1 q1, fun _ pos => ?_⟩
    cases es with
    | nil =>
      cases ys with
      | cons _ _ => simp [agEs] at g3
      | nil =>
        refine ⟨ge_and1 p1, ge_or1 p1, fun t => ?_⟩
        simp only [agTs, Bool.and_eq_true] at t
        exact ⟨gt_and1 (p2 t.1), gt_or1 (p2 t.1)⟩
    | cons e2 es =>
      cases ys with
      | nil => simp [agEs] at g3
      | cons z zs =>
        obtain ⟨r1, r2, r3⟩ := q2 (by simp [Es.len]) pos
        refine ⟨ge_and p1 r1, ge_or p1 r2, fun t => ?_⟩
        rw [agTs] at t
        simp only [Bool.and_eq_true] at t
        obtain ⟨t1, t2⟩ := r3 t.2
        exact ⟨gt_and (p2 t.1) t1, gt_or (p2 t.1) t2⟩
theorem litC_ok {W : WX} {X : Cx} {d : D} {c : Const} {j : Nat} {p : Pos} (h : litC d c = true) : PE X (.Constant c j p) (rdE (sx X XR W) Γ (.lit d)) := by
  cases d <;> cases c <;> first | (simp [litC] at h; done) | skip
  · exact ge_litC pe_non fun _ => .non
  · simp only [litC, beq_iff_eq] at h
    subst h
    exact ge_litC pe_bl fun _ => .bl _
  · simp only [litC, decide_eq_true_eq] at h
    subst h
    exact ge_litC pe_int fun _ => .int _
  · simp only [litC, decide_eq_true_eq] at h
    subst h
    exact ge_litC pe_str fun _ => .str _
theorem part_ok {W : WX} {A : Ag} {X : Cx} (o : XO XR W Γ A k X) {lo : E} (h : OkE XR Γ k lo) {p : Option Expr} (g : (match p with | none => lo.isNo | some y => !lo.isNo && agE lo A y) = true) : PO X p (rdPo (sx X XR W) Γ lo) := by
  cases p with
  | none =>
    cases lo <;> first | exact go_none | cases g
  | some y =>
    simp only [Bool.and_eq_true, Bool.not_eq_true'] at g
    exact go_some g.1 (h W A X o y g.2).1
def OkPs (XR : XRT) (Γ : Ctx) (k : Nat) (es : Es) : Prop := ∀ (W : WX) (A : Ag) (X : Cx) (o : XO XR W Γ A k X) (xs : List Expr), agEs es A xs = true → ∀ (ts : List Tx) (keys : List (Option Expr)) (pos : Pos), agKs (lits ts) keys = true → ts.length = es.len → PPs X pos keys xs (trsOf X XR W Γ ts es)
theorem okPs_nil {XR : XRT} {Γ : Ctx} {k : Nat} : OkPs XR Γ k .nil := fun W A X o xs g ts keys pos h1 h2 => by
  cases ts with
  | cons _ _ => simp [Es.len] at h2
  | nil =>
    cases keys with
    | cons _ _ => simp [lits, agKs] at h1
    | nil =>
      cases xs with
      | cons _ _ => simp [agEs] at g
      | nil => exact pps_nil
theorem okPs_cons {XR : XRT} {Γ : Ctx} {k : Nat} {e : E} {es : Es} (h1 : OkE XR Γ k e) (h2 : OkPs XR Γ k es) : OkPs XR Γ k (.cons e es) := fun W A X o xs g ts keys pos h3 h4 => by
  cases ts with
  | nil => simp [Es.len] at h4
  | cons t ts =>
    unfold lits agKs at h3
    split at h3
    · exact absurd ‹Es.cons (E.lit (.str t)) (lits ts) = Es.nil› (fun q => nomatch q)
    · rename_i t' es' u j p xs' q
      cases q
      simp only [Bool.and_eq_true, decide_eq_true_eq] at h3
      cases xs with
      | nil => simp [agEs] at g
      | cons y ys =>
        unfold agEs at g
        simp only [Bool.and_eq_true] at g
        exact pps_cons (litC_ok (d := .str t) (by simpa [litC] using h3.1)) (h1 W A X o y g.1.2).1 (h2 W A X o ys g.2 ts xs' pos h3.2 (by simpa [Es.len] using h4))
    · cases h3
theorem lits_len : ∀ ts : List Tx, (lits ts).len = ts.length
  | [] => rfl
  | _ :: ts => by simp only [lits, Es.len, lits_len ts, List.length_cons]
theorem disp_of {XR : XRT} {Γ : Ctx} {W : WX} {X : Cx} {ks vs : Es} {ee : E} {keys : List (Option Expr)} {values : List Expr} {pos : Pos} (hp : ∀ (ts : List Tx) (keys : List (Option Expr)) (pos : Pos), agKs (lits ts) keys = true → ts.length = vs.len → PPs X pos keys values (trsOf X XR W Γ ts vs)) (g : agDs ks vs.len keys = true) (hv : values.length = vs.len)
    (he : ∀ ts, ks = lits ts → ee = .dfrz (.disp (lits ts) vs) ∨ ee = .dcel (.disp (lits ts) vs)) : PE X (.Dict keys values pos) (rdE (sx X XR W) Γ ee) := by
  unfold agDs at g
  simp only [Bool.and_eq_true, decide_eq_true_eq] at g
  obtain ⟨⟨⟨g1, g2⟩, g3⟩, g4⟩ := g
  obtain ⟨ts, rfl, h2, h3⟩ := agKs_lits ks keys g1
  rw [lits_len] at g2
  exact gd_disp (he ts rfl) (hp ts keys pos g1 g2) g2 h3 (by rw [h2, g2, hv]) (fun e => by rw [e] at h2; simp at h2; omega) (by omega) (by omega)
mutual
theorem sndE : ∀ e : E, OkE XR Γ k e
  | .loc i => okE_of (fun W A X o x g => by
      unfold agE at g
      split at g
      · rename_i y p
        simp only [Bool.and_eq_true, decide_eq_true_eq] at g
        exact ge_loc (by rw [o.hN]; exact g.1.1) (o.visible g.1.2) (okN_ok g.2).1 (okN_ok g.2).2
      · cases g) fun x => rfl
  | .con c => okE_of (fun W A X o x g => by
      unfold agE at g
      split at g
      · rename_i y p
        simp only [Bool.and_eq_true, decide_eq_true_eq] at g
        rcases o.cns c y g.1.1 with h0 | ⟨v, u, d, h1, h2, h3, h5, h4⟩ | ⟨b, ks, is, h0, _, _⟩
        · exact ⟨fun pins s σ H Q I h => by
            obtain ⟨s, Z, f, M, rm, rs, h⟩ := h
            simp only [evE, h0, conSem, R.of_none, R.bind_stuck] at h
            exact h.elim⟩
        · exact ge_con (o.gl g.1.2) h1 h2 (okN_ok g.2).1 h3 h4
        · exact ⟨fun pins s σ H Q I h => by
            obtain ⟨s, Z, f, M, rm, rs, h⟩ := h
            simp only [evE, h0, conSem, R.of_none, R.bind_stuck] at h
            exact h.elim⟩
      · cases g) fun x => rfl
  | .cin c a => fun W A X o x g => by
      unfold agE at g
      split at g
      · rename_i l op y p q
        simp only [Bool.and_eq_true, decide_eq_true_eq, Bool.not_eq_true'] at g
        obtain ⟨⟨⟨⟨⟨rfl, g1⟩, g2⟩, g3⟩, g4⟩, g5⟩ := g
        have p1 := (sndE a W A X o _ g1).1
        rcases o.cns c y g2 with h0 | ⟨v, u, d, h1, h2, h3, h5, h4⟩ | ⟨b, ks, is, h0, h1, D1⟩
        · have hc : conSem (Γ.con c) = Γ.con c := by rw [h0]; rfl
          exact ⟨ge_cin0 hc p1 g5, fun _ => gt_cin0 hc p1 g5⟩
        · have hc : conSem (Γ.con c) = Γ.con c := by rw [h3]; exact h5
          exact ⟨ge_cin0 hc p1 g5, fun _ => gt_cin0 hc p1 g5⟩
        · exact ⟨ge_cin (o.gl g3) h1 (okN_ok g4).1 h0 D1.kd D1.no D1.has p1 g5, fun _ => gt_cin (o.gl g3) h1 (okN_ok g4).1 h0 D1.kd D1.no D1.has p1 g5⟩
      · cases g
  | .cidx c a => okE_of (fun W A X o x g => by
      unfold agE at g
      split at g
      · rename_i y p r q
        simp only [Bool.and_eq_true, decide_eq_true_eq] at g
        obtain ⟨⟨⟨⟨g2, g3⟩, g4⟩, g1⟩, g5⟩ := g
        have p1 := (sndE a W A X o _ g1).1
        rcases o.cns c y g2 with h0 | ⟨v, u, d, h1, h2, h3, h5, h4⟩ | ⟨b, ks, is, h0, h1, D1⟩
        · exact ge_cidx0 (by rw [h0]; rfl)
        · exact ge_cidx0 (by rw [h3]; cases d <;> first | rfl | cases h5)
        · exact ge_cidx (o.gl g3) h1 (okN_ok g4).1 h0 D1.kd D1.at_ g5 p1
      · cases g) fun x => rfl
  | .lit d => okE_of (fun W A X o x g => by
      unfold agE at g
      split at g
      · exact litC_ok g
      · cases g) fun x => rfl
  | .no => okE_of (fun W A X o x g => by simp [agE] at g) fun x => rfl
  | .tup es => okE_of (fun W A X o x g => by
      unfold agE at g
      split at g
      · rename_i xs j p
        simp only [Bool.and_eq_true] at g
        exact ge_tup g.2 (sndEs es W A X o xs g.1).1
      · cases g) fun x => rfl
  | .frz l => okE_of (fun W A X o x g => by
      rw [agE] at g
      exact ge_frz (sndL l W A X o x g)) fun x => rfl
  | .cel l => okE_of (fun W A X o x g => by
      rw [agE] at g
      exact ge_cel (sndL l W A X o x g)) fun x => rfl
  | .dfrz c => match c with
    | .disp ks vs => okE_of (fun W A X o x g => by
          simp only [agE] at g
          split at g
          · rw [Bool.and_eq_true] at g
            exact disp_of (fun ts keys pos h1 h2 => sndPs vs W A X o _ g.2 ts keys pos h1 h2) g.1 (agEs_len g.2).1 (fun ts e => .inl (by rw [e]))
          · cases g) fun x => rfl
    | .comp k v tg it => okE_of (fun W A X o x g => by
          simp only [agE] at g
          split at g
          · rename_i kx vx t i j scope p
            simp only [Bool.and_eq_true, decide_eq_true_eq] at g
            obtain ⟨⟨⟨⟨⟨⟨rfl, g1⟩, g2⟩, g3⟩, g4⟩, g5⟩, g6⟩ := g
            have hok : BlkOk X.N X.env.scope scope (A.own tg.slots) := by
              rw [o.hN, o.hsc]
              exact blkOk_by g4
            refine gd_comp (own := A.own tg.slots) (.inl rfl) o.calm o.nd (sndI it W A X o _ _ g1) hok ?_ (fun s H C cl fp => pg_ok (o.blk scope s H C cl fp) g3) (fun s H C cl fp => (sndE k _ _ _ (o.blk scope s H C cl fp) _ g5).1) (fun s H C cl fp => (sndE v _ _ _ (o.blk scope s H C cl fp) _ g6).1) (noSet_ok g2 _)
            unfold Ag.own
            rw [List.map_map]
            exact List.map_id _
          · cases g) fun x => rfl
  | .dcel c => match c with
    | .disp .nil .nil => okE_of (fun W A X o x g => by
          simp only [agE] at g
          split at g
          · exact ge_dnew
          · cases g) fun x => rfl
    | .disp (.cons k ks) vs => okE_of (fun W A X o x g => by
          simp only [agE] at g
          split at g
          · rw [Bool.and_eq_true] at g
            exact disp_of (fun ts keys pos h1 h2 => sndPs vs W A X o _ g.2 ts keys pos h1 h2) g.1 (agEs_len g.2).1 (fun ts e => .inr (by rw [e]))
          · cases g) fun x => rfl
    | .disp .nil (.cons v vs) => okE_of (fun W A X o x g => by
          simp only [agE] at g
          split at g
          · simp [agDs, Es.len] at g
          · cases g) fun x => rfl
    | .comp k v tg it => okE_of (fun W A X o x g => by
          simp only [agE] at g
          split at g
          · rename_i kx vx t i j scope p
            simp only [Bool.and_eq_true, decide_eq_true_eq] at g
            obtain ⟨⟨⟨⟨⟨⟨rfl, g1⟩, g2⟩, g3⟩, g4⟩, g5⟩, g6⟩ := g
            have hok : BlkOk X.N X.env.scope scope (A.own tg.slots) := by
              rw [o.hN, o.hsc]
              exact blkOk_by g4
            refine gd_comp (own := A.own tg.slots) (.inr rfl) o.calm o.nd (sndI it W A X o _ _ g1) hok ?_ (fun s H C cl fp => pg_ok (o.blk scope s H C cl fp) g3) (fun s H C cl fp => (sndE k _ _ _ (o.blk scope s H C cl fp) _ g5).1) (fun s H C cl fp => (sndE v _ _ _ (o.blk scope s H C cl fp) _ g6).1) (noSet_ok g2 _)
            unfold Ag.own
            rw [List.map_map]
            exact List.map_id _
          · cases g) fun x => rfl
  | .bin op a b => okE_of (fun W A X o x g => by
      unfold agE at g
      split at g
      · simp only [Bool.and_eq_true, decide_eq_true_eq] at g
        obtain ⟨⟨rfl, g1⟩, g2⟩ := g
        exact ge_bin (sndE a W A X o _ g1).1 (sndE b W A X o _ g2).1
      · cases g) fun x => rfl
  | .cmp op a b => fun W A X o x g => by
      unfold agE at g
      split at g
      · simp only [Bool.and_eq_true, decide_eq_true_eq, Bool.not_eq_true'] at g
        obtain ⟨⟨⟨rfl, g1⟩, g2⟩, g3⟩ := g
        have p1 := (sndE a W A X o _ g1).1
        have p2 := (sndE b W A X o _ g2).1
        exact ⟨ge_cmp o.hu p1 p2 g3, fun _ => gt_cmp o.hu p1 p2 g3⟩
      · cases g
  | .cmp2 op p a b c => fun W A X o x g => by
      unfold agE at g
      split at g
      · simp only [Bool.and_eq_true, decide_eq_true_eq, Bool.not_eq_true'] at g
        obtain ⟨⟨⟨⟨⟨rfl, rfl⟩, g1⟩, g2⟩, g3⟩, g4⟩ := g
        have p1 := (sndE a W A X o _ g1).1
        have p2 := (sndE b W A X o _ g2).1
        have p3 := (sndE c W A X o _ g3).1
        exact ⟨ge_cmp2 o.hu p1 p2 p3 g4, fun _ => gt_cmp2 o.hu p1 p2 p3 g4⟩
      · cases g
  | .neg a => okE_of (fun W A X o x g => by
      unfold agE at g
      split at g
      · exact ge_neg (sndE a W A X o _ g).1
      · cases g) fun x => rfl
  | .inv a => fun W A X o x g => by
      unfold agE at g
      split at g
      · obtain ⟨p1, p2⟩ := sndE a W A X o _ g
        refine ⟨ge_inv p1, fun t => ?_⟩
        simp only [agT] at t
        exact gt_inv (p2 t)
      · cases g
  | .and es => fun W A X o x g => by
      unfold agE at g
      split at g
      · rename_i xs p
        simp only [Bool.and_eq_true, decide_eq_true_eq] at g
        obtain ⟨q1, q2⟩ := sndEs es W A X o xs g.1
        obtain ⟨r1, r2, r3⟩ := q2 g.2 p
        refine ⟨r1, fun t => ?_⟩
        simp only [agT] at t
        exact (r3 t).1.pt
      · cases g
  | .or es => fun W A X o x g => by
      unfold agE at g
      split at g
      · rename_i xs p
        simp only [Bool.and_eq_true, decide_eq_true_eq] at g
        obtain ⟨q1, q2⟩ := sndEs es W A X o xs g.1
        obtain ⟨r1, r2, r3⟩ := q2 g.2 p
        refine ⟨r2, fun t => ?_⟩
        simp only [agT] at t
        exact (r3 t).2.pt
      · cases g
  | .ifx c a b => okE_of (fun W A X o x g => by
      unfold agE at g
      split at g
      · simp only [Bool.and_eq_true] at g
        obtain ⟨⟨⟨g1, g2⟩, g3⟩, g4⟩ := g
        exact ge_ifx ((sndE c W A X o _ g1).2 g2) (sndE a W A X o _ g3).1 (sndE b W A X o _ g4).1
      · cases g) fun x => rfl
  | .idx a i => okE_of (fun W A X o x g => by
      unfold agE at g
      split at g
      · simp only [Bool.and_eq_true] at g
        obtain ⟨⟨g1, g2⟩, g3⟩ := g
        exact ge_idx o.hu g3 (sndE a W A X o _ g1).1 (sndE i W A X o _ g2).1
      · cases g) fun x => rfl
  | .sl a lo hi => okE_of (fun W A X o x g => by
      unfold agE at g
      split at g
      · simp only [Bool.and_eq_true] at g
        obtain ⟨⟨g1, g2⟩, g3⟩ := g
        exact ge_sl (sndE a W A X o _ g1).1 (part_ok o (sndE lo) g2) (part_ok o (sndE hi) g3)
      · cases g) fun x => rfl
  | .rev a => okE_of (fun W A X o x g => by
      unfold agE at g
      split at g
      · simp only [Bool.and_eq_true, decide_eq_true_eq] at g
        obtain ⟨rfl, g1⟩ := g
        exact ge_rev (sndE a W A X o _ g1).1
      · cases g) fun x => rfl
  | .call c es => okE_of (fun W A X o x g => by
      unfold agE at g
      split at g
      · rename_i y p xs p2
        simp only [Bool.and_eq_true, decide_eq_true_eq] at g
        obtain ⟨⟨⟨⟨g1, g2⟩, g3⟩, g4⟩, g5⟩ := g
        obtain ⟨l1, l2⟩ := agEs_len g4
        cases xs with
        | nil => rw [← l1] at g5; simp at g5
        | cons z zs => exact ge_call o g1 (o.gl g2) (okN_ok g3).1 l2 (sndEs es W A X o _ g4).1
      · cases g) fun x => rfl
  | .bi b es => okE_of (fun W A X o x g => by
      unfold agE at g
      split at g
      · rename_i y p xs p2
        simp only [Bool.and_eq_true, decide_eq_true_eq] at g
        obtain ⟨⟨⟨⟨rfl, g2⟩, g3⟩, g4⟩, g5⟩ := g
        obtain ⟨l1, l2⟩ := agEs_len g4
        cases xs with
        | nil => rw [← l1] at g5; simp at g5
        | cons z zs => exact ge_bi o.calm g3 (o.gl g2) (o.blt _ (bi_mem b)) l2 (sndEs es W A X o _ g4).1
      · cases g) fun x => rfl
  | .isi a t => okE_of (fun W A X o x g => by
      unfold agE at g
      split at g
      · simp only [Bool.and_eq_true, decide_eq_true_eq] at g
        obtain ⟨⟨⟨⟨⟨rfl, rfl⟩, g2⟩, g3⟩, g4⟩, g5⟩ := g
        exact ge_isi (o.gl g2) (o.blt _ (by decide +kernel)) (o.gl g3) (o.blt _ (isi_mem t)) g4 (sndE a W A X o _ g5).1
      · cases g) fun x => rfl
  | .mth m ob es => okE_of (fun W A X o x g => by
      unfold agE at g
      split at g
      · simp only [Bool.and_eq_true, decide_eq_true_eq] at g
        obtain ⟨⟨⟨⟨⟨⟨rfl, g2⟩, g3⟩, g4⟩, g5⟩, g6⟩, g7⟩ := g
        obtain ⟨l1, l2⟩ := agEs_len g5
        refine ge_mth o.hu g2 (sndE ob W A X o _ g4).1 (sndEs es W A X o _ g5).1 (noSup_ok g3 _ _) g6 l2 (decide_eq_true (by rw [l1]; exact g7)) fun e => ?_
        rw [e] at l1
        cases es with
        | nil => rfl
        | cons _ _ => simp [Es.len] at l1
      · cases g) fun x => rfl
theorem sndPs : ∀ es : Es, OkPs XR Γ k es
  | .nil => okPs_nil
  | .cons e es => okPs_cons (sndE e) (sndPs es)
theorem sndEs : ∀ es : Es, OkEs XR Γ k es
  | .nil => okEs_nil
  | .cons e es => okEs_cons (sndE e) (sndEs es)
theorem sndL : ∀ l : L, OkL XR Γ k l
  | .disp es => fun W A X o x g => by
      unfold agL at g
      split at g
      · simp only [Bool.and_eq_true] at g
        exact gl_disp g.2 (sndEs es W A X o _ g.1).1
      · cases g
  | .cat a b => fun W A X o x g => by
      unfold agL at g
      split at g
      · simp only [Bool.and_eq_true] at g
        exact gl_cat (sndE a W A X o _ g.1).1 (sndE b W A X o _ g.2).1
      · cases g
  | .bi b es => fun W A X o x g => by
      unfold agL at g
      split at g
      · rename_i y p xs p2
        simp only [Bool.and_eq_true, decide_eq_true_eq] at g
        obtain ⟨⟨⟨rfl, g2⟩, g4⟩, g5⟩ := g
        obtain ⟨l1, l2⟩ := agEs_len g4
        cases xs with
        | nil => rw [← l1] at g5; simp at g5
        | cons z zs => exact gl_bi o.calm (o.gl g2) (o.blt _ (lb_mem b)) l2 (sndEs es W A X o _ g4).1
      · cases g
  | .comp elt tg it c => fun W A X o x g => by
      unfold agL at g
      split at g
      · rename_i e t i ifs j scope p
        simp only [Bool.and_eq_true, decide_eq_true_eq] at g
        obtain ⟨⟨⟨⟨⟨⟨rfl, g1⟩, g2⟩, g3⟩, g4⟩, g5⟩, g6⟩ := g
        have hok : BlkOk X.N X.env.scope scope (A.own tg.slots) := by
          rw [o.hN, o.hsc]
          exact blkOk_by g4
        refine gl_comp (own := A.own tg.slots) o.calm o.nd (sndI it W A X o _ _ g1) hok ?_ (fun s H C cl fp => pg_ok (o.blk scope s H C cl fp) g3) (fun s H C cl fp => ?_) (fun s H C cl fp => (sndE elt _ _ _ (o.blk scope s H C cl fp) _ g6).1) (noSet_ok g2 _)
        · unfold Ag.own
          rw [List.map_map]
          exact List.map_id _
        · have o2 := o.blk scope s H C cl fp
          split at g5
          · have : c = .no := by cases c <;> first | rfl | cases g5
            subst this
            exact gc_none
          · simp only [Bool.and_eq_true, Bool.not_eq_true'] at g5
            exact gc_one g5.1.1 ((sndE c _ _ _ o2 _ g5.1.2).2 g5.2)
          · cases g5
      · cases g
  | .sl a lo hi => fun W A X o x g => by
      unfold agL at g
      split at g
      · simp only [Bool.and_eq_true] at g
        obtain ⟨⟨g1, g2⟩, g3⟩ := g
        exact gl_sl (sndE a W A X o _ g1).1 (part_ok o (sndE lo) g2) (part_ok o (sndE hi) g3)
      · cases g
theorem sndI : ∀ it : I, OkI XR Γ k it
  | .of e => fun W A X o t x g => by
      rw [agI] at g
      exact gi_of (sndE e W A X o x g).1
  | .zip a b => fun W A X o t x g => by
      unfold agI at g
      split at g
      · split at g
        · simp only [Bool.and_eq_true, decide_eq_true_eq] at g
          obtain ⟨⟨⟨⟨⟨rfl, g2⟩, g3⟩, g4⟩, g5⟩, g6⟩ := g
          exact gi_zip (o.gl g2) (o.blt _ (by decide +kernel)) g3 g4 (sndE a W A X o _ g5).1 (sndE b W A X o _ g6).1
        · cases g
      · cases g
  | .enum a => fun W A X o t x g => by
      unfold agI at g
      split at g
      · split at g
        · simp only [Bool.and_eq_true, decide_eq_true_eq] at g
          obtain ⟨⟨⟨rfl, g2⟩, g3⟩, g4⟩ := g
          exact gi_enum (o.gl g2) (o.blt _ (by decide +kernel)) g3 (sndE a W A X o _ g4).1
        · cases g
      · cases g
  | .rng es => fun W A X o t x g => by
      unfold agI at g
      split at g
      · rename_i y p xs p2
        simp only [Bool.and_eq_true, decide_eq_true_eq, Bool.or_eq_true] at g
        obtain ⟨⟨⟨rfl, g2⟩, g3⟩, g4⟩ := g
        have ih := (sndEs es W A X o _ g3).1
        obtain ⟨l1, l2⟩ := agEs_len g3
        have hm := o.blt ("range" : PySem.Str) (by decide +kernel)
        have hg := o.gl g2
        rcases g4 with g4 | g4
        · match es, xs, g4, l1, l2, ih with
          | .cons ea .nil, [a], _, _, l2, ih => exact gi_rng1 hg hm (by simpa using l2) ih
          | .nil, _, g4, _, _, _ => simp [Es.len] at g4
          | .cons _ (.cons _ _), _, g4, _, _, _ => simp [Es.len] at g4
          | .cons _ .nil, [], _, l1, _, _ => simp [Es.len] at l1
          | .cons _ .nil, _ :: _ :: _, _, l1, _, _ => simp [Es.len] at l1
        · match es, xs, g4, l1, l2, ih with
          | .cons ea (.cons eb .nil), [a, b], _, _, l2, ih =>
            simp only [List.all_cons, Bool.and_eq_true] at l2
            exact gi_rng2 hg hm l2.1 l2.2.1 ih
          | .nil, _, g4, _, _, _ => simp [Es.len] at g4
          | .cons _ .nil, _, g4, _, _, _ => simp [Es.len] at g4
          | .cons _ (.cons _ (.cons _ _)), _, g4, _, _, _ => simp [Es.len] at g4
          | .cons _ (.cons _ .nil), [], _, l1, _, _ => simp [Es.len] at l1
          | .cons _ (.cons _ .nil), [_], _, l1, _, _ => simp [Es.len] at l1
          | .cons _ (.cons _ .nil), _ :: _ :: _ :: _, _, l1, _, _ => simp [Es.len] at l1
      · cases g
  | .items _ => fun W A X o t x g => by simp [agI] at g
end
end
end TN

/-! TNm: statements. -/
namespace TN
open PySem PySem.Spec PyProof.Rows L2
def FlD (S : Sx) (D : Ends) (σ : L2.St) (Z : Hp) (f : List Addr) (H : Hp) : TN.Flow → Prop
  | .nx => D.nx σ H
  | .brk => D.bk σ H
  | .cnt => D.ct σ H
  | .ret w => ∀ v, RepW S.K Z f v w → D.rt v H
def PostS (S : Sx) (Z : Hp) (f : List Addr) (H : Hp) (r : R (TN.Flow × Env × Store)) (D : Ends) : Prop := match r with
  | .ok (fl, s', M') => ∀ σ' H' Z' f', Stp Z f H Z' f' H' → RelM S.K H' Z' f' M' → RelS S.K Z' f' σ' s' → FlD S D σ' Z' f' H' fl
  | .exn x s' M' => ∀ cls d σ' H' Z' f', Stp Z f H Z' f' H' → RelM S.K H' Z' f' M' → RelS S.K Z' f' σ' s' → S.XR x cls d H' → S.W cls d σ' H'
  | .stuck => False
def rdS (S : Sx) (ev : Env → Store → R (TN.Flow × Env × Store)) : TS := fun D σ H => ∃ s Z f M, RelM S.K H Z f M ∧ RelS S.K Z f σ s ∧ PostS S Z f H (ev s M) D
section
variable {S : Sx} {α β : Type} {Rp : Hp → Hp → List Addr → β → α → Prop} {σ : L2.St} {Z H : Hp} {f : List Addr} {M : Store} {s : Env} {D : Ends}
theorem PostS.step {r : R (TN.Flow × Env × Store)} {Z1 H1 : Hp} {f1 : List Addr} (st : Stp Z f H Z1 f1 H1) (h : PostS S Z f H r D) : PostS S Z1 f1 H1 r D := by
  cases r with
  | ok p => obtain ⟨fl, s', M'⟩ := p; exact fun σ' H' Z' f' s rm rs => h σ' H' Z' f' (st.trans s) rm rs
  | exn x s m => exact fun cls d σ' H' Z' f' s rm rs xr => h cls d σ' H' Z' f' (st.trans s) rm rs xr
  | stuck => exact h
theorem PostS.of {γ : Type} {o : Option γ} {k : γ → R (TN.Flow × Env × Store)} (h : PostS S Z f H ((R.of o).bind k) D) : ∃ x, o = some x ∧ PostS S Z f H (k x) D := by
  cases o with
  | none => exact h.elim
  | some x => exact ⟨x, rfl, h⟩
/-- an expression, then the rest -/
theorem rd.fstS {ev : Env → Store → R (α × Store)} {k : α × Store → R (TN.Flow × Env × Store)} {Q1 : β → Hp → Prop} (rm : RelM S.K H Z f M) (rs : RelS S.K Z f σ s) (h : PostS S Z f H (((ev s M).from s).bind k) D)
    (go : ∀ b H1 x Z1 f1 M1, Stp Z f H Z1 f1 H1 → RelM S.K H1 Z1 f1 M1 → RelS S.K Z1 f1 σ s → Rp H1 Z1 f1 b x → PostS S Z1 f1 H1 (k (x, M1)) D → Q1 b H1) : rd S Rp ev σ H Q1 := by
  refine ⟨s, Z, f, M, rm, rs, ?_⟩
  cases q : ev s M with
  | ok p =>
    obtain ⟨x, M'⟩ := p
    rw [q] at h
    exact fun b H1 Z1 f1 st rm1 rp => go b H1 x Z1 f1 M' st rm1 (rs.mono st.z st.pre) rp (PostS.step st h)
  | exn x s' m =>
    rw [q] at h
    exact fun cls d H' Z' f' st rm' xr => h cls d σ H' Z' f' st rm' (rs.mono st.z st.pre) xr
  | stuck => rw [q] at h; exact h
/-- a statement, then the rest -/
theorem rdS.seq {ev ev2 : Env → Store → R (TN.Flow × Env × Store)} (rm : RelM S.K H Z f M) (rs : RelS S.K Z f σ s) (h : PostS S Z f H ((ev s M).bind fun (fl, s, M) => match fl with | .nx => ev2 s M | fl => .ok (fl, s, M)) D) :
    rdS S ev { D with nx := rdS S ev2 D } σ H := by
  refine ⟨s, Z, f, M, rm, rs, ?_⟩
  cases q : ev s M with
  | ok p =>
    obtain ⟨fl, s', M'⟩ := p
    rw [q] at h
    intro σ' H' Z' f' st rm' rs'
    cases fl with
    | nx => exact ⟨s', Z', f', M', rm', rs', PostS.step st h⟩
    | brk => exact h σ' H' Z' f' st rm' rs'
    | cnt => exact h σ' H' Z' f' st rm' rs'
    | ret w => exact h σ' H' Z' f' st rm' rs'
  | exn x s' m => rw [q] at h; exact h
  | stuck => rw [q] at h; exact h
end
section
variable {X : Cx} {XR : XRT} {W : WX} {Γ : Ctx} {pos : Pos} {tg e a b c : Expr} {ea eb ec : E} {D : Ends} {σ : L2.St} {H : Hp} {Q : VK}
theorem frz_rd {l : L} (h : rdE (sx X XR W) Γ (.frz l) σ H Q) : rdL (sx X XR W) Γ l σ H Q := by
  obtain ⟨s, Z, f, M, rm, rs, h⟩ := h
  refine ⟨s, Z, f, M, rm, rs, ?_⟩
  simp only [evE] at h
  cases q : evL Γ l s M with
  | ok p =>
    rw [q] at h
    obtain ⟨ws, M'⟩ := p
    obtain ⟨ds, e, h⟩ := Post.of h
    intro a vs H' Z' f' st rm' e1 e2 e3 e4 r
    exact h (.ref a) H' _ f' (st.freeze e2 e3) (rm'.freeze e1 e3 e4) (.d (.lst upd_same ((r.ds e).mono (same_upd e3))))
  | exn x s m => rw [q] at h; exact h
  | stuck => rw [q] at h; exact h
theorem cel_rd {l : L} (h : rdE (sx X XR W) Γ (.cel l) σ H Q) : rdL (sx X XR W) Γ l σ H Q := by
  obtain ⟨s, Z, f, M, rm, rs, h⟩ := h
  refine ⟨s, Z, f, M, rm, rs, ?_⟩
  simp only [evE] at h
  cases q : evL Γ l s M with
  | ok p =>
    rw [q] at h
    obtain ⟨ws, M'⟩ := p
    intro a vs H' Z' f' st rm' e1 e2 e3 e4 r
    refine h (.ref a) H' Z' (f' ++ [a]) (st.track e2) (rm'.track e1 e3 e4 ⟨vs, e1, r.mono (Same.refl _) (List.prefix_append _ _)⟩) (.r ?_)
    show (f' ++ [a])[M'.length]? = some a
    rw [← rm'.len, List.getElem?_append_right (Nat.le_refl _)]
    simp
  | exn x s m => rw [q] at h; exact h
  | stuck => rw [q] at h; exact h
theorem comp_rd {eelt ec : E} {etg : Tg} {eit : I} (h : rdL (sx X XR W) Γ (.comp eelt etg eit ec) σ H Q) : tLc (rdI (sx X XR W) Γ eit) (gT X.K etg) (rdC (sx X XR noW) Γ ec) (rdE (sx X XR noW) Γ eelt) etg.slots σ H Q := by
  obtain ⟨s, Z, f, M, rm, rs, h⟩ := h
  refine ⟨s, Z, f, M, rm, rs, ?_⟩
  simp only [evL] at h
  cases q : evI Γ eit s M with
  | ok p =>
    obtain ⟨items, gs, M1⟩ := p
    rw [q] at h
    intro J H1 Z1 f1 st1 rm1 wk Da hD
    exact comp_ok rm1 (rs.mono st1.z st1.pre) wk (PostL.step st1 h) Da hD
  | exn x s m => rw [q] at h; exact h
  | stuck => rw [q] at h; exact h
/-- the value of an assignment -/
theorem asg_rd {t : Tg} (h : rdS (sx X XR W) (evS Γ (.asg t ea)) D σ H) : rdE (sx X XR W) Γ ea σ H fun x H1 => gT X.K t x σ H1 D.nx := by
  obtain ⟨s, Z, f, M, rm, rs, h⟩ := h
  simp only [evS] at h
  refine rd.fstS rm rs h fun v1 H1 x Z1 f1 M1 st1 rm1 rs1 rp1 h => ?_
  obtain ⟨s2, e, h⟩ := PostS.of h
  exact gT_ok rm1 rs1 (it := .one x) rp1 e fun σ' rs' _ => h σ' H1 Z1 f1 Stp.refl rm1 rs'
def noComp : Expr → Bool
  | .ListComp _ _ _ _ => false
  | .SetComp _ _ _ _ => false
  | .DictComp _ _ _ _ _ => false
  | _ => true
theorem noComp_ok (h : noComp e = true) (t : Option Expr) (l : Nat) (env : PySem.Env) : swapsWith e t l env = pure false := by
  cases e <;> first | rfl | cases h
theorem sole_ok {t : Expr} {l : Nat} {env : PySem.Env} (h : noComp e = true) : swapsWithSole [t] e l env = pure false := by
  unfold swapsWithSole
  exact noComp_ok h (some t) l env
theorem sole_sub {o i : Expr} {p : Pos} {l : Nat} {env : PySem.Env} : swapsWithSole [.Subscript o i p] e l env = pure false := by
  unfold swapsWithSole
  cases e <;> rfl
def noTup : Expr → Bool
  | .Tuple _ _ _ => false
  | _ => true
theorem noTup_ok {ts : List Expr} (h : noTup e = true) (env : PySem.Env) : swappedStores ts e env = pure none := by
  unfold swappedStores
  cases e <;> first | cases h | skip
  all_goals
    cases ts with
    | nil => rfl
    | cons t r =>
      cases r with
      | nil => cases t <;> rfl
      | cons _ _ => cases t <;> rfl
theorem gs_asgN {i : Nat} {x : PySem.Str} {p : Pos} (hN : X.N.Nodup) (hi : X.N[i]? = some x) (hx : Loc X.env.scope x) (hf : X.fn x = true ∨ X.env.scope.names.lookup x = some .local) (hc : swapsWith e (some (.Name x p)) pos.line X.env = pure false) (he : PE X e (rdE (sx X XR W) Γ ea)) :
    PS X (.Assign [.Name x p] e pos) (rdS (sx X XR W) (evS Γ (.asg (.nm i) ea))) :=
  (ps_set hN hi hx he hc hf).weak fun D σ H h => asg_rd h
theorem gs_aug {i : Nat} {x : PySem.Str} {p : Pos} {op : Bop} (ho : op = .add ∨ op = .sub) (hN : X.N.Nodup) (hi : X.N[i]? = some x) (hx : Loc X.env.scope x) (hf : X.fn x = true ∨ X.env.scope.names.lookup x = some .local) (he : PE X e (rdE (sx X XR W) Γ ea)) :
    PS X (.AugAssign (.Name x p) (pyB op) e pos) (rdS (sx X XR W) (evS Γ (.aug i op ea))) := by
  have main : ∀ (g : Int → Int → Int) (op : Bop), (∀ a b, augSem op a b ≠ none → ∃ i j, a = .d (.int i) ∧ b = .d (.int j) ∧ augSem op a b = some (.d (.int (g i j)))) → PIp X (pyB op) (ipI g) → PS X (.AugAssign (.Name x p) (pyB op) e pos) (rdS (sx X XR W) (evS Γ (.aug i op ea))) := fun g op hg hp => by
    refine (ps_aug hN hi hx he hp hf).weak fun D σ H ⟨s, Z, f, M, rm, rs, h⟩ => ?_
    simp only [evS] at h
    split at h
    · rename_i w ew
      obtain ⟨v, e1, r⟩ := rs.get i w ew
      refine ⟨v, e1, rd.fstS rm rs h fun v1 H1 y Z1 f1 M1 st1 rm1 rs1 rp1 h => ?_⟩
      obtain ⟨z, e2, h⟩ := PostS.of h
      obtain ⟨a, b, rfl, rfl, e3⟩ := hg w y (by rw [e2]; exact fun z => nomatch z)
      rw [e3] at e2
      cases e2
      cases r with
      | d r =>
        cases r
        cases rp1 with
        | d rp1 =>
          cases rp1
          exact ⟨_, _, rfl, rfl, h _ H1 Z1 f1 Stp.refl rm1 (rs1.set i (.d (.int _)))⟩
    · exact h.elim
  rcases ho with rfl | rfl
  · refine main (fun i j => i + j) .add (fun a b h => ?_) ip_add
    unfold augSem at h ⊢
    split at h
    · exact ⟨_, _, rfl, rfl, rfl⟩
    · exact absurd ‹Bop.add = Bop.sub› (by decide)
    · exact absurd rfl h
  · refine main (fun i j => i - j) .sub (fun a b h => ?_) ip_sub
    unfold augSem at h ⊢
    split at h
    · exact absurd ‹Bop.sub = Bop.add› (by decide)
    · exact ⟨_, _, rfl, rfl, rfl⟩
    · exact absurd rfl h
theorem gs_asgT {is : List Nat} {xs : List Expr} {j : Nat} {p : Pos} (hg : PG X (.Tuple xs j p) (gT X.K (.tu is))) (hc : noComp e = true) (ht : noTup e = true) (he : PE X e (rdE (sx X XR W) Γ ea)) :
    PS X (.Assign [.Tuple xs j p] e pos) (rdS (sx X XR W) (evS Γ (.asg (.tu is) ea))) :=
  (ps_asg he hg (sole_ok hc) (noTup_ok ht _) rfl).weak fun D σ H h => asg_rd h
theorem gs_expr (hc : noComp e = true) (he : PE X e (rdE (sx X XR W) Γ ea)) : PS X (.Expr e pos) (rdS (sx X XR W) (evS Γ (.expr ea))) := by
  refine (ps_expr he (noComp_ok hc _ _ _)).weak fun D σ H ⟨s, Z, f, M, rm, rs, h⟩ => ?_
  simp only [evS] at h
  exact rd.fstS rm rs h fun v1 H1 x Z1 f1 M1 st1 rm1 rs1 rp1 h => h σ H1 Z1 f1 Stp.refl rm1 rs1
theorem gs_ret (he : PE X e (rdE (sx X XR W) Γ ea)) : PS X (.Return (some e) pos) (rdS (sx X XR W) (evS Γ (.ret ea))) := by
  refine (ps_ret he).weak fun D σ H ⟨s, Z, f, M, rm, rs, h⟩ => ?_
  simp only [evS] at h
  exact rd.fstS rm rs h fun v1 H1 x Z1 f1 M1 st1 rm1 rs1 rp1 h => h σ H1 Z1 f1 Stp.refl rm1 rs1 v1 rp1
theorem gs_retN : PS X (.Return none pos) (rdS (sx X XR W) (evS Γ .retN)) := by
  refine ps_retN.weak fun D σ H ⟨s, Z, f, M, rm, rs, h⟩ => ?_
  simp only [evS] at h
  exact h σ H Z f Stp.refl rm rs .non (.d .non)
theorem gs_pass : PS X (.Pass pos) (rdS (sx X XR W) (evS Γ .pass)) := by
  refine ps_pass.weak fun D σ H ⟨s, Z, f, M, rm, rs, h⟩ => ?_
  simp only [evS] at h
  exact h σ H Z f Stp.refl rm rs
theorem gs_brk : PS X (.Break pos) (rdS (sx X XR W) (evS Γ .brk)) := by
  refine ps_break.weak fun D σ H ⟨s, Z, f, M, rm, rs, h⟩ => ?_
  simp only [evS] at h
  exact h σ H Z f Stp.refl rm rs
theorem gs_cnt : PS X (.Continue pos) (rdS (sx X XR W) (evS Γ .cnt)) := by
  refine ps_continue.weak fun D σ H ⟨s, Z, f, M, rm, rs, h⟩ => ?_
  simp only [evS] at h
  exact h σ H Z f Stp.refl rm rs
theorem gss_nil : PSs X [] (rdS (sx X XR W) (evSs Γ .nil)) := by
  refine pss_nil.weak fun D σ H ⟨s, Z, f, M, rm, rs, h⟩ => ?_
  simp only [evSs] at h
  exact h σ H Z f Stp.refl rm rs
theorem gss_cons {st : Stmt} {sts : List Stmt} {t : S} {ts : Ss} (h1 : PS X st (rdS (sx X XR W) (evS Γ t))) (h2 : PSs X sts (rdS (sx X XR W) (evSs Γ ts))) : PSs X (st :: sts) (rdS (sx X XR W) (evSs Γ (.cons t ts))) := by
  refine (pss_cons h1 h2).weak fun D σ H ⟨s, Z, f, M, rm, rs, h⟩ => ?_
  simp only [evSs] at h
  exact rdS.seq (ev := evS Γ t) (ev2 := evSs Γ ts) rm rs h
theorem gs_if {p q : List Stmt} {ta tb : Ss} (hc : PT X c (rdT (sx X XR W) Γ ec)) (ha : PSs X p (rdS (sx X XR W) (evSs Γ ta))) (hb : PSs X q (rdS (sx X XR W) (evSs Γ tb))) : PS X (.If c p q pos) (rdS (sx X XR W) (evS Γ (.ifs ec ta tb))) := by
  refine (ps_if hc ha hb).weak fun D σ H ⟨s, Z, f, M, rm, rs, h⟩ => ?_
  simp only [evS] at h
  refine rd.fstS (Rp := RpB) (ev := evTest Γ ec) rm rs h fun v1 H1 x Z1 f1 M1 st1 rm1 rs1 rp1 h => ?_
  cases (show v1 = x from rp1)
  cases v1 with
  | true => exact ⟨s, Z1, f1, M1, rm1, rs1, h⟩
  | false => exact ⟨s, Z1, f1, M1, rm1, rs1, h⟩
/-! loops -/
theorem gs_for {iter : Expr} {body : List Stmt} {etg : Tg} {eit : I} {tb : Ss} (hp : PassesOwn (model X.prog X.w) X.A X.env X.xe) (hc : X.calm = true) (hi : PI X tg iter (rdI (sx X XR W) Γ eit)) (hg : PG X tg (gT X.K etg)) (hb : PSs X body (rdS (sx X XR W) (evSs Γ tb)))
    (hs : ∀ x, foldedSetIterable iter X.env x = pure x) : PS X (.For tg iter body [] pos) (rdS (sx X XR W) (evS Γ (.for_ etg eit tb))) := by
  refine (ps_for hp hc hi hg hb hs).weak fun D σ H ⟨s, Z, f, M, rm, rs, h⟩ => ⟨s, Z, f, M, rm, rs, ?_⟩
  simp only [evS] at h
  cases q : evI Γ eit s M with
  | exn x s' m =>
    rw [q] at h
    exact fun cls d H' Z' f' st rm' xr => h cls d σ H' Z' f' st rm' (rs.mono st.z st.pre) xr
  | stuck => rw [q] at h; exact h
  | ok p =>
    obtain ⟨items, gs, M1⟩ := p
    rw [q] at h
    intro J H1 Z1 f1 st1 rm1 wk
    have h : PostS (sx X XR W) Z1 f1 H1 (forLoop etg.put (fun s M => evSs Γ tb s M) gs s items s M1) D := PostS.step st1 h
    refine ⟨fun i m σ H => m = items.length - i ∧ i ≤ items.length ∧ ∃ Z f M s', Stp Z1 f1 H1 Z f H ∧ RelM X.K H Z f M ∧ stays gs M1 M ∧ RelS X.K Z f σ s' ∧ PostS (sx X XR W) Z f H (forLoop etg.put (fun s M => evSs Γ tb s M) gs s (items.drop i) s' M) D,
      ⟨items.length, by simp, Nat.zero_le _, Z1, f1, M1, s, Stp.refl, rm1, fun _ _ => rfl, rs.mono st1.z st1.pre, by simpa using h⟩, ?_⟩
    rintro i m σ H ⟨rfl, hi, Z, f, M, s', st, rm, sy, rs, h⟩
    by_cases hlt : i < items.length
    · refine .inr ?_
      have ei : items[i]? = some items[i] := List.getElem?_eq_getElem hlt
      obtain ⟨g1, g2⟩ := wk.go Z f H M st rm sy i _ ei
      refine ⟨g1, fun σ H => i + 1 ≤ items.length ∧ ∃ Z f M s', Stp Z1 f1 H1 Z f H ∧ RelM X.K H Z f M ∧ stays gs M1 M ∧ RelS X.K Z f σ s' ∧ PostS (sx X XR W) Z f H (forLoop etg.put (fun s M => evSs Γ tb s M) gs s (items.drop (i + 1)) s' M) D,
        fun σ' H' w => ⟨items.length - (i + 1), by omega, rfl, w⟩, fun x H' hy => ?_⟩
      obtain ⟨Z3, st3, rm3, ri⟩ := g2 x H' hy
      rw [List.drop_eq_getElem_cons hlt] at h
      unfold forLoop at h
      obtain ⟨s2, e2, h⟩ := PostS.of h
      refine gT_ok rm3 (rs.mono st3.z st3.pre) ri e2 fun σ2 rs2 _ => ?_
      refine ⟨s2, Z3, f, M, rm3, rs2, ?_⟩
      have h := PostS.step st3 h
      cases q2 : evSs Γ tb s2 M with
      | exn x s' m =>
        rw [q2] at h
        exact h
      | stuck => rw [q2] at h; exact h
      | ok p =>
        obtain ⟨fl, s3, M3⟩ := p
        rw [q2] at h
        simp only [R.bind_ok] at h
        intro σ4 H4 Z4 f4 st4 rm4 rs4
        have st14 := (st.trans st3).trans st4
        cases fl with
        | nx =>
          simp only at h
          split at h
          · rename_i hg
            exact ⟨hlt, Z4, f4, M3, TN.mask s s3, st14, rm4, sy.trans (guard_ok hg), rs4.mask s, PostS.step st4 h⟩
          · exact h.elim
        | cnt =>
          simp only at h
          split at h
          · rename_i hg
            exact ⟨hlt, Z4, f4, M3, TN.mask s s3, st14, rm4, sy.trans (guard_ok hg), rs4.mask s, PostS.step st4 h⟩
          · exact h.elim
        | brk => exact h σ4 H4 Z4 f4 st4 rm4 (rs4.mask s)
        | ret w => exact h σ4 H4 Z4 f4 st4 rm4 rs4
    · have e : i = items.length := by omega
      subst e
      refine .inl ⟨wk.stop Z f H M st rm sy, ?_⟩
      rw [List.drop_length] at h
      unfold forLoop at h
      exact h σ H Z f Stp.refl rm (rs.mask s)
theorem gs_whl {body : List Stmt} {tb : Ss} (hp : PassesOwn (model X.prog X.w) X.A X.env X.xe) (hc : PT X c (rdT (sx X XR W) Γ ec)) (hb : PSs X body (rdS (sx X XR W) (evSs Γ tb))) : PS X (.While c body [] pos) (rdS (sx X XR W) (evS Γ (.whl ec tb))) := by
  refine (ps_while hp hc hb).weak fun D σ H ⟨s, Z, f, M, rm, rs, h⟩ => ?_
  simp only [evS] at h
  refine ⟨fun m σ H => ∃ Z f M s', RelM X.K H Z f M ∧ RelS X.K Z f σ s' ∧ PostS (sx X XR W) Z f H (whlLoop (fun s M => (evTest Γ ec s M).from s) (fun s M => evSs Γ tb s M) s m s' M) D, ⟨Γ.wf, Z, f, M, s, rm, rs, h⟩, ?_⟩
  rintro m σ H ⟨Z, f, M, s', rm, rs, h⟩
  cases m with
  | zero => exact h.elim
  | succ m =>
    unfold whlLoop at h
    refine rd.fstS (Rp := RpB) (ev := evTest Γ ec) rm rs h fun v1 H1 x Z1 f1 M1 st1 rm1 rs1 rp1 h => ?_
    cases (show v1 = x from rp1)
    cases v1 with
    | false => exact h σ H1 Z1 f1 Stp.refl rm1 rs1
    | true =>
      simp only [if_true] at h ⊢
      refine ⟨fun σ H => ∃ Z f M s', RelM X.K H Z f M ∧ RelS X.K Z f σ s' ∧ PostS (sx X XR W) Z f H (whlLoop (fun s M => (evTest Γ ec s M).from s) (fun s M => evSs Γ tb s M) s m s' M) D, fun σ' H' w => ⟨m, Nat.lt_succ_self m, w⟩, s', Z1, f1, M1, rm1, rs1, ?_⟩
      cases q2 : evSs Γ tb s' M1 with
      | exn x s' m => rw [q2] at h; exact h
      | stuck => rw [q2] at h; exact h
      | ok p =>
        obtain ⟨fl, s3, M3⟩ := p
        rw [q2] at h
        simp only [R.bind_ok] at h
        intro σ4 H4 Z4 f4 st4 rm4 rs4
        cases fl with
        | nx => exact ⟨Z4, f4, M3, TN.mask s s3, rm4, rs4.mask s, PostS.step st4 h⟩
        | cnt => exact ⟨Z4, f4, M3, TN.mask s s3, rm4, rs4.mask s, PostS.step st4 h⟩
        | brk => exact h σ4 H4 Z4 f4 st4 rm4 (rs4.mask s)
        | ret w => exact h σ4 H4 Z4 f4 st4 rm4 rs4
/-! stores -/
theorem gs_set {o i : Expr} {eo ei : E} {p : Pos} (hu : X.A.units + 200 < cLine) (ht : noTup e = true) (hx : plIx i = true) (ho : PE X o (rdE (sx X XR W) Γ eo)) (hi : PE X i (rdE (sx X XR W) Γ ei)) (he : PE X e (rdE (sx X XR W) Γ ea)) :
    PS X (.Assign [.Subscript o i p] e pos) (rdS (sx X XR W) (evS Γ (.set eo ei ea))) := by
  obtain ⟨r, hr, hk⟩ := set_ok (X := X) hu
  have ha : ∀ v, assign (.Subscript o i p) X.env v = (do
      let ov ← holding [v] (eval o X.env)
      let iv ← holding [v, ov] (eval i X.env)
      standAt p
      holding [v, ov, iv] (setItem ov iv v)
      release [v, ov, iv] []) := fun v => by
    cases i <;> first | rfl | cases hx
  refine (ps_asg he (pg_sub ho hi hr ha) sole_sub (noTup_ok ht _) rfl).weak fun D σ H ⟨s, Z, f, M, rm, rs, h⟩ => ?_
  simp only [evS] at h
  refine rd.fstS rm rs h fun v1 H1 x Z1 f1 M1 st1 rm1 rs1 rp1 h => ?_
  refine rd.fstS rm1 rs1 h fun v2 H2 y Z2 f2 M2 st2 rm2 rs2 rp2 h => ?_
  refine rd.fstS rm2 rs2 h fun v3 H3 z Z3 f3 M3 st3 rm3 rs3 rp3 h => ?_
  obtain ⟨M4, e4, h⟩ := PostS.of h
  refine hk rm3 (rp2.mono st3.z st3.pre) rp3 ((rp1.mono st2.z st2.pre).mono st3.z st3.pre) e4 fun H4 st4 rm4 => ?_
  exact h σ H4 Z3 f3 st4 rm4 rs3
/-! x = [.. for ..] -/
theorem gs_setLc {i : Nat} {y : PySem.Str} {py spos : Pos} {elt iter : Expr} {ifs : List Expr} {scope : Scope} {own : List (PySem.Str × Nat)} {eelt : E} {etg : Tg} {eit : I} (he0 : ea = .frz (.comp eelt etg eit ec) ∨ ea = .cel (.comp eelt etg eit ec))
    (hc : X.calm = true) (hN : X.N.Nodup) (hy : X.N[i]? = some y) (hyl : X.env.scope.names.lookup y = some .local)
    (hsw : swapsWith (.ListComp elt [⟨tg, iter, ifs, 0⟩] scope pos) (some (.Name y py)) spos.line X.env = pure true) (hi : PI X tg iter (rdI (sx X XR W) Γ eit)) (ok : BlkOk X.N X.env.scope scope own) (hown : own.map (·.2) = etg.slots)
    (hg : ∀ (s : Shared) (H : Hp) (C : Addr) (cl : List (PySem.Str × Addr)) (fp : List Addr), PG (X.blk s H scope (compEnvC scope cl C X.env) fp) tg (gT X.K etg))
    (ht : ∀ (s : Shared) (H : Hp) (C : Addr) (cl : List (PySem.Str × Addr)) (fp : List Addr), PTs (X.blk s H scope (compEnvC scope cl C X.env) fp) ifs (rdC (sx X XR noW) Γ ec))
    (he : ∀ (s : Shared) (H : Hp) (C : Addr) (cl : List (PySem.Str × Addr)) (fp : List Addr), PE (X.blk s H scope (compEnvC scope cl C X.env) fp) elt (rdE (sx X XR noW) Γ eelt)) (hs : ∀ x, foldedSetIterable iter X.env x = pure x) :
    PS X (.Assign [.Name y py] (.ListComp elt [⟨tg, iter, ifs, 0⟩] scope pos) spos) (rdS (sx X XR W) (evS Γ (.asg (.nm i) ea))) := by
  refine (ps_setLc hc hN hy hyl hsw hi ok hg ht he hs).weak fun D σ H h => ?_
  have h2 := asg_rd h
  show tLc _ _ _ _ (own.map (·.2)) σ H fun x H1 => gT X.K (.nm i) x σ H1 D.nx
  rw [hown]
  rcases he0 with rfl | rfl
  · exact comp_rd (frz_rd h2)
  · exact comp_rd (cel_rd h2)
end
/-! ### the own syntax and the text's -/
/-- what swapsWith asks at x = [..] -/
def swC (A : Ag) (scope : Scope) (y : PySem.Str) (p1 p2 : Pos) : Bool := decide (A.sc.kind = .function) && decide (A.sc.names.lookup y = some .local) && (p1.line == p2.line) && !(scope.names.any fun (n, k) => n == y && (k == .local || k == .cell))
mutual
def agS : S → Ag → Stmt → Bool
  | .asg t e, A, x => (match x with
    | .Assign [.Name y p] v pos => (match t with
      | .nm i => decide (A.N[i]? = some y) && A.loc y && (if noComp v || decide (A.sc.names.lookup y = some .cell) then agE e A v else (match v with
        | .ListComp el [⟨tg, it, ifs, j⟩] scope p2 => swC A scope y p p2 && agE e A v && (match e with
          | .frz (.comp _ _ _ _) => true
          | .cel (.comp _ _ _ _) => true
          | _ => false)
        | .DictComp _ _ [⟨_, _, [], _⟩] scope p2 => swC A scope y p p2 && agE e A v && (match e with
          | .dfrz (.comp _ _ _ _) => true
          | .dcel (.comp _ _ _ _) => true
          | _ => false)
        | _ => false))
      | _ => false)
    | .Assign [.Tuple xs _ _] v _ => (match t with
      | .tu is => agNs A is xs && noComp v && noTup v && agE e A v
      | _ => false)
    | _ => false)
  | .set o i e, A, x => (match x with
    | .Assign [.Subscript l r _] v _ => noTup v && plIx r && agE o A l && agE i A r && agE e A v
    | _ => false)
  | .fld _ _ _, _, _ => false
  | .aug i o e, A, x => (match x with
    | .AugAssign (.Name y _) op v _ => decide (A.N[i]? = some y) && A.loc y && decide (o = .add ∨ o = .sub) && decide (op = pyB o) && agE e A v
    | _ => false)
  | .expr e, A, x => (match x with
    | .Expr v _ => noComp v && agE e A v
    | _ => false)
  | .ret e, A, x => (match x with
    | .Return (some v) _ => agE e A v
    | _ => false)
  | .retN, A, x => (match x with
    | .Return none _ => true
    | _ => false)
  | .ifs c a b, A, x => (match x with
    | .If t p q _ => agE c A t && agT c t && agSs a A p && agSs b A q
    | _ => false)
  | .for_ tg it b, A, x => (match x with
    | .For t i p [] _ => agI it A t i && noSet i && agTg A tg t && agSs b A p
    | _ => false)
  | .whl c b, A, x => (match x with
    | .While t p [] _ => agE c A t && agT c t && agSs b A p
    | _ => false)
  | .brk, _, x => (match x with
    | .Break _ => true
    | _ => false)
  | .cnt, _, x => (match x with
    | .Continue _ => true
    | _ => false)
  | .pass, _, x => (match x with
    | .Pass _ => true
    | _ => false)
def agSs : Ss → Ag → List Stmt → Bool
  | .nil, _, xs => (match xs with
    | [] => true
    | _ => false)
  | .cons a ss, A, xs => (match xs with
    | y :: ys => agS a A y && agSs ss A ys
    | _ => false)
end
section
variable {XR : XRT} {W : WX} {Γ : Ctx} {A : Ag} {k : Nat} {X : Cx}
theorem comp_parts (o : XO XR W Γ A k X) {elt c : E} {tg : Tg} {it : I} {e t i : Expr} {ifs : List Expr} {j : Int} {scope : Scope} {p : Pos} (g : agL (.comp elt tg it c) A (.ListComp e [⟨t, i, ifs, j⟩] scope p) = true) :
    j = 0 ∧ PI X t i (rdI (sx X XR W) Γ it) ∧ BlkOk X.N X.env.scope scope (A.own tg.slots) ∧ (A.own tg.slots).map (·.2) = tg.slots ∧
    (∀ (s : Shared) (H : Hp) (C : Addr) (cl : List (PySem.Str × Addr)) (fp : List Addr), PG (X.blk s H scope (compEnvC scope cl C X.env) fp) t (gT X.K tg)) ∧
    (∀ (s : Shared) (H : Hp) (C : Addr) (cl : List (PySem.Str × Addr)) (fp : List Addr), PTs (X.blk s H scope (compEnvC scope cl C X.env) fp) ifs (rdC (sx X XR noW) Γ c)) ∧
    (∀ (s : Shared) (H : Hp) (C : Addr) (cl : List (PySem.Str × Addr)) (fp : List Addr), PE (X.blk s H scope (compEnvC scope cl C X.env) fp) e (rdE (sx X XR noW) Γ elt)) ∧ ∀ x, foldedSetIterable i X.env x = pure x := by
  unfold agL at g
  simp only [Bool.and_eq_true, decide_eq_true_eq] at g
  obtain ⟨⟨⟨⟨⟨⟨rfl, g1⟩, g2⟩, g3⟩, g4⟩, g5⟩, g6⟩ := g
  refine ⟨rfl, sndI it W A X o _ _ g1, ?_, ?_, fun s H C cl fp => pg_ok (o.blk scope s H C cl fp) g3, fun s H C cl fp => ?_, fun s H C cl fp => (sndE elt _ _ _ (o.blk scope s H C cl fp) _ g6).1, noSet_ok g2 _⟩
  · rw [o.hN, o.hsc]
    exact blkOk_by g4
  · unfold Ag.own
    rw [List.map_map]
    exact List.map_id _
  · have o2 := o.blk scope s H C cl fp
    split at g5
    · have : c = .no := by cases c <;> first | rfl | cases g5
      subst this
      exact gc_none
    · simp only [Bool.and_eq_true, Bool.not_eq_true'] at g5
      exact gc_one g5.1.1 ((sndE c _ _ _ o2 _ g5.1.2).2 g5.2)
    · cases g5
theorem gs_dcAsg {i : Nat} {y : PySem.Str} {py p1 p2 : Pos} {kx vx t it : Expr} {j : Int} {scope : Scope} {ek ev ea : E} {tg : Tg} {eit : I} (he0 : ea = .dfrz (.comp ek ev tg eit) ∨ ea = .dcel (.comp ek ev tg eit)) (o : XO XR W Γ A k X)
    (g : (decide (j = 0) && agI eit A t it && noSet it && agTg (A.blk scope) tg t && blkC A.N A.sc scope (A.own tg.slots) && agE ek (A.blk scope) kx && agE ev (A.blk scope) vx) = true)
    (hi : X.N[i]? = some y) (hl : X.env.scope.names.lookup y = some .local) (hsw : swapsWith (.DictComp kx vx [⟨t, it, [], j⟩] scope p1) (some (.Name y py)) p2.line X.env = pure true) :
    PS X (.Assign [.Name y py] (.DictComp kx vx [⟨t, it, [], j⟩] scope p1) p2) (rdS (sx X XR W) (evS Γ (.asg (.nm i) ea))) := by
  simp only [Bool.and_eq_true, decide_eq_true_eq] at g
  obtain ⟨⟨⟨⟨⟨⟨rfl, g1⟩, g2⟩, g3⟩, g4⟩, g5⟩, g6⟩ := g
  have hok : BlkOk X.N X.env.scope scope (A.own tg.slots) := by
    rw [o.hN, o.hsc]
    exact blkOk_by g4
  have hown : (A.own tg.slots).map (·.2) = tg.slots := by
    unfold Ag.own
    rw [List.map_map]
    exact List.map_id _
  have ht : ∀ (s : Shared) (H : Hp) (C : Addr) (cl : List (PySem.Str × Addr)) (fp : List Addr), PTs (X.blk s H scope (compEnvC scope cl C X.env) fp) [] (rdC (sx X XR noW) Γ .no) := fun s H C cl fp => gc_none
  refine (ps_dcSet (own := A.own tg.slots) (g := gT X.K tg) (tk := rdE (sx X XR noW) Γ ek) (tv := rdE (sx X XR noW) Γ ev) o.calm o.nd hi hl hsw (sndI eit W A X o _ _ g1) hok (fun s H C cl fp => pg_ok (o.blk scope s H C cl fp) g3) ht (fun s H C cl fp => (sndE ek _ _ _ (o.blk scope s H C cl fp) _ g5).1) (fun s H C cl fp => (sndE ev _ _ _ (o.blk scope s H C cl fp) _ g6).1) (noSet_ok g2 _)).weak fun D σ H h => ?_
  exact dcomp_rd he0 hown (asg_rd h)
mutual
theorem sndS (o : XO XR W Γ A k X) (hp : PassesOwn (model X.prog X.w) X.A X.env X.xe) : ∀ (t : S) (x : Stmt), agS t A x = true → PS X x (rdS (sx X XR W) (evS Γ t))
  | .asg t e, x, g => by
    unfold agS at g
    split at g
    · rename_i y p v pos
      split at g
      · rename_i i
        simp only [Bool.and_eq_true, decide_eq_true_eq] at g
        obtain ⟨⟨g1, g2⟩, g3⟩ := g
        obtain ⟨l1, l2⟩ := o.local_ g2
        have hi : X.N[i]? = some y := by rw [o.hN]; exact g1
        split at g3
        · rename_i hc
          rcases Bool.or_eq_true _ _ ▸ hc with hc | hc
          · exact gs_asgN o.nd hi l1 l2 (noComp_ok hc _ _ _) (sndE e W A X o v g3).1
          · exact gs_asgN o.nd hi l1 l2 (sw_cell (by rw [o.hsc]; exact of_decide_eq_true hc)) (sndE e W A X o v g3).1
        · split at g3
          · rename_i el tg it ifs j scope p2 _
            simp only [Bool.and_eq_true] at g3
            obtain ⟨⟨g4, g5⟩, g6⟩ := g3
            unfold swC at g4
            simp only [Bool.and_eq_true, decide_eq_true_eq, Bool.not_eq_true'] at g4
            obtain ⟨⟨⟨k1, k2⟩, k3⟩, k4⟩ := g4
            rw [← o.hsc] at k1 k2
            have hsw := sw_true (elt := el) (gs := [⟨tg, it, ifs, j⟩]) (pos := p2) (py := p) (l := pos.line) k1 k2 k3 k4
            split at g6
            · rename_i elt tg' it' c
              rw [agE] at g5
              obtain ⟨rfl, q1, q2, q3, q4, q5, q6, q7⟩ := comp_parts o g5
              exact gs_setLc (.inl rfl) o.calm o.nd hi k2 hsw q1 q2 q3 q4 q5 q6 q7
            · rename_i elt tg' it' c
              rw [agE] at g5
              obtain ⟨rfl, q1, q2, q3, q4, q5, q6, q7⟩ := comp_parts o g5
              exact gs_setLc (.inr rfl) o.calm o.nd hi k2 hsw q1 q2 q3 q4 q5 q6 q7
            · cases g6
          · rename_i kx vx tg it j scope p2 _
            simp only [Bool.and_eq_true] at g3
            obtain ⟨⟨g4, g5⟩, g6⟩ := g3
            unfold swC at g4
            simp only [Bool.and_eq_true, decide_eq_true_eq, Bool.not_eq_true'] at g4
            obtain ⟨⟨⟨k1, k2⟩, k3⟩, k4⟩ := g4
            rw [← o.hsc] at k1 k2
            have hsw := sw_dc (kx := kx) (vx := vx) (gs := [⟨tg, it, [], j⟩]) (p1 := p2) (py := p) (l := pos.line) k1 k2 k3 k4
            split at g6
            · rename_i ek ev tg' it'
              simp only [agE] at g5
              exact gs_dcAsg (.inl rfl) o g5 hi k2 hsw
            · rename_i ek ev tg' it'
              simp only [agE] at g5
              exact gs_dcAsg (.inr rfl) o g5 hi k2 hsw
            · cases g6
          · cases g3
      · cases g
    · split at g
      · simp only [Bool.and_eq_true] at g
        obtain ⟨⟨⟨g1, g2⟩, g3⟩, g4⟩ := g
        exact gs_asgT (pg_ok o g1) g2 g3 (sndE e W A X o _ g4).1
      · cases g
    · cases g
  | .set ob i e, x, g => by
    unfold agS at g
    split at g
    · simp only [Bool.and_eq_true] at g
      obtain ⟨⟨⟨⟨g2, g3⟩, g4⟩, g5⟩, g6⟩ := g
      exact gs_set o.hu g2 g3 (sndE ob W A X o _ g4).1 (sndE i W A X o _ g5).1 (sndE e W A X o _ g6).1
    · cases g
  | .fld _ _ _, x, g => by simp [agS] at g
  | .aug i op e, x, g => by
    unfold agS at g
    split at g
    · rename_i y p op' v pos
      simp only [Bool.and_eq_true, decide_eq_true_eq] at g
      obtain ⟨⟨⟨⟨g1, g2⟩, g3⟩, rfl⟩, g5⟩ := g
      obtain ⟨l1, l2⟩ := o.local_ g2
      exact gs_aug g3 o.nd (by rw [o.hN]; exact g1) l1 l2 (sndE e W A X o v g5).1
    · cases g
  | .expr e, x, g => by
    unfold agS at g
    split at g
    · simp only [Bool.and_eq_true] at g
      exact gs_expr g.1 (sndE e W A X o _ g.2).1
    · cases g
  | .ret e, x, g => by
    unfold agS at g
    split at g
    · exact gs_ret (sndE e W A X o _ g).1
    · cases g
  | .retN, x, g => by
    unfold agS at g
    split at g
    · exact gs_retN
    · cases g
  | .ifs c a b, x, g => by
    unfold agS at g
    split at g
    · simp only [Bool.and_eq_true] at g
      obtain ⟨⟨⟨g1, g2⟩, g3⟩, g4⟩ := g
      exact gs_if ((sndE c W A X o _ g1).2 g2) (sndSs o hp a _ g3) (sndSs o hp b _ g4)
    · cases g
  | .for_ tg it b, x, g => by
    unfold agS at g
    split at g
    · simp only [Bool.and_eq_true] at g
      obtain ⟨⟨⟨g1, g2⟩, g3⟩, g4⟩ := g
      exact gs_for hp o.calm (sndI it W A X o _ _ g1) (pg_ok o g3) (sndSs o hp b _ g4) (noSet_ok g2 _)
    · cases g
  | .whl c b, x, g => by
    unfold agS at g
    split at g
    · simp only [Bool.and_eq_true] at g
      obtain ⟨⟨g1, g2⟩, g3⟩ := g
      exact gs_whl hp ((sndE c W A X o _ g1).2 g2) (sndSs o hp b _ g3)
    · cases g
  | .brk, x, g => by
    unfold agS at g
    split at g
    · exact gs_brk
    · cases g
  | .cnt, x, g => by
    unfold agS at g
    split at g
    · exact gs_cnt
    · cases g
  | .pass, x, g => by
    unfold agS at g
    split at g
    · exact gs_pass
    · cases g
theorem sndSs (o : XO XR W Γ A k X) (hp : PassesOwn (model X.prog X.w) X.A X.env X.xe) : ∀ (t : Ss) (x : List Stmt), agSs t A x = true → PSs X x (rdS (sx X XR W) (evSs Γ t))
  | .nil, xs, g => by
    cases xs with
    | nil => exact gss_nil
    | cons _ _ => simp [agSs] at g
  | .cons a ss, xs, g => by
    cases xs with
    | nil => simp [agSs] at g
    | cons y ys =>
      simp only [agSs, Bool.and_eq_true] at g
      exact gss_cons (sndS o hp a y g.1) (sndSs o hp ss ys g.2)
end
end
end TN

/-! TNn: functions. -/
namespace TN
open PySem PySem.Spec PyProof.Rows L2
section
variable {K : PySem.W.Frag} {Z Z' H H' : Hp} {f f' : List Addr} {M M' : Store}
open Classical in
/-- the cells from lo on are frozen -/
noncomputable def frzH (lo : Nat) (Z H : Hp) (f : List Addr) : Hp := fun a => if a ∈ f.drop lo then H a else Z a
theorem frzH_same {lo : Nat} (rm : RelM K H Z f M) : Same Z (frzH lo Z H f) := fun a o e => by
  unfold frzH
  split
  · exact rm.sub a o e
  · exact e
theorem frzH_sub {lo : Nat} (rm : RelM K H Z f M) : Same (frzH lo Z H f) H := fun a o e => by
  unfold frzH at e
  split at e
  · exact e
  · exact rm.sub a o e
theorem frzH_in {lo n : Nat} {a : Addr} (h : f[n]? = some a) (hn : ¬ n < lo) : frzH lo Z H f a = H a := by
  unfold frzH
  rw [if_pos]
  have e : (f.drop lo)[n - lo]? = some a := by
    rw [List.getElem?_drop]
    have : lo + (n - lo) = n := by omega
    rw [this]; exact h
  exact List.mem_of_getElem? e
theorem frzL_rep {Z2 : Hp} {g : W → Option D} (h : ∀ {w : W} {v : V} {d : D}, RepW K Z f v w → g w = some d → RepD K Z2 v d) : ∀ {ws : List W} {vs : List V} {ds : List D}, RepWs K Z f vs ws → frzL g ws = some ds → RepDs K Z2 vs ds
  | [], vs, ds, r, e => by
    cases r
    simp only [frzL, Option.some.injEq] at e
    subst e
    exact .nil
  | w :: ws, vs, ds, r, e => by
    cases r with
    | cons r1 r2 =>
      simp only [frzL] at e
      cases e1 : g w with
      | none => rw [e1] at e; cases e
      | some d =>
        rw [e1] at e
        simp only [Option.bind_some] at e
        cases e2 : frzL g ws with
        | none => rw [e2] at e; cases e
        | some es =>
          rw [e2] at e
          cases e
          exact .cons (h r1 e1) (frzL_rep h r2 e2)
theorem frzW_d {x : D} {lo : Nat} (k : Nat) : frzW M lo k (.d x) = some x := by cases k <;> rfl
theorem frzW_rep {lo : Nat} (rm : RelM K H Z f M) : ∀ (k : Nat) {w : W} {v : V} {d : D}, RepW K Z f v w → frzW M lo k w = some d → RepD K (frzH lo Z H f) v d := by
  intro k
  induction k with
  | zero =>
    intro w v d r e
    cases w with
    | d x =>
      rw [frzW_d] at e
      cases e
      cases r with
      | d r => exact r.mono (frzH_same rm)
    | r n => cases e
  | succ k ih =>
    intro w v d r e
    cases w with
    | d x =>
      rw [frzW_d] at e
      cases e
      cases r with
      | d r => exact r.mono (frzH_same rm)
    | r n =>
      simp only [frzW] at e
      split at e
      · cases e
      · rename_i hn
        cases r with
        | r hf =>
          rename_i a
          split at e
          · rename_i ws q
            cases e2 : frzL (frzW M lo k) ws with
            | none => rw [e2] at e; cases e
            | some ds =>
              rw [e2] at e
              cases e
              obtain ⟨vs, h1, h2⟩ := rm.cell _ _ _ q hf
              exact .lst (by rw [frzH_in hf hn]; exact h1) (frzL_rep ih h2 e2)
          · rename_i ks ws q
            cases e2 : frzL (frzW M lo k) ws with
            | none => rw [e2] at e; cases e
            | some ds =>
              rw [e2] at e
              cases e
              obtain ⟨kvs, h1, h2, h3⟩ := rm.cell _ _ _ q hf
              exact .dct (by rw [frzH_in hf hn]; exact h1) h2 (frzL_rep ih h3 e2)
          · cases e
theorem below_rep {lo : Nat} (p : f <+: f') (hl : f.length = lo) (e : Same Z Z') {v : V} {w : W} (r : RepW K Z f' v w) (h : w.below lo = true) : RepW K Z' f v w := by
  cases r with
  | d r => exact .d (r.mono e)
  | r hf =>
    have h := of_decide_eq_true h
    obtain ⟨t, rfl⟩ := p
    rw [List.getElem?_append_left (by omega)] at hf
    exact .r hf
theorem below_reps {lo : Nat} (p : f <+: f') (hl : f.length = lo) (e : Same Z Z') : ∀ {vs : List V} {ws : List W}, RepWs K Z f' vs ws → ws.all (W.below lo) = true → RepWs K Z' f vs ws
  | _, _, .nil, _ => .nil
  | _, _, .cons r t, h => by
    rw [List.all_cons, Bool.and_eq_true] at h
    exact .cons (below_rep p hl e r h.1) (below_reps p hl e t h.2)
/-- behind a call that keeps none of its own cells -/
theorem fin_below (rm0 : RelM K H Z f M) (st : Stp Z f H Z' f' H') (rm : RelM K H' Z' f' M') (hb : (M'.take M.length).all (Cell.below M.length) = true) :
    Stp Z f H (frzH M.length Z' H' f') f H' ∧ RelM K H' (frzH M.length Z' H' f') f (M'.take M.length) := by
  have hfl : f.length = M.length := rm0.len
  have hle : f.length ≤ f'.length := st.pre.length_le
  have hM : M.length ≤ M'.length := by rw [← rm.len]; omega
  have same := frzH_same (lo := M.length) rm
  have zOf : ∀ a, a ∈ f → frzH M.length Z' H' f' a = Z' a := fun a ha => by
    unfold frzH
    rw [if_neg]
    intro hd
    obtain ⟨t, e⟩ := st.pre
    have nd := rm.nd
    rw [← e, ← hfl, List.drop_left] at hd
    rw [← e, List.nodup_append] at nd
    exact nd.2.2 a ha a hd rfl
  refine ⟨⟨st.z.trans same, List.prefix_refl _, st.fr, st.dom, fun a o e => ?_, fun _ h => .inl h⟩, ⟨frzH_sub rm, ?_, rm0.nd, fun n c a h1 h2 => ?_, fun n c a h1 h2 => ?_, fun a ha => ?_⟩⟩
  · unfold frzH at e
    split at e
    · rename_i hd
      rcases st.nf a (List.mem_of_mem_drop hd) with q | q
      · exact .inr (.inr q)
      · exact .inr (.inl q)
    · exact st.nz a o e
  · rw [List.length_take]; omega
  · have hn : n < f.length := (List.getElem?_eq_some_iff.mp h2).1
    have h1' : M'[n]? = some c := by rw [List.getElem?_take_of_lt (by omega)] at h1; exact h1
    have h2' : f'[n]? = some a := by
      obtain ⟨t, e⟩ := st.pre
      rw [← e, List.getElem?_append_left hn]; exact h2
    have hc := rm.cell n c a h1' h2'
    have hbc : Cell.below M.length c = true := List.all_eq_true.mp hb c (List.mem_of_getElem? h1)
    cases c with
    | lst ws =>
      obtain ⟨vs, q1, q2⟩ := hc
      exact ⟨vs, q1, below_reps st.pre hfl same q2 hbc⟩
    | dct ks ws =>
      obtain ⟨kvs, q1, q2, q3⟩ := hc
      exact ⟨kvs, q1, q2, below_reps st.pre hfl same q3 hbc⟩
    | ins _ _ => exact hc.elim
    | dead => trivial
  · have hn : n < f.length := (List.getElem?_eq_some_iff.mp h2).1
    have h1' : M'[n]? = some c := by rw [List.getElem?_take_of_lt (by omega)] at h1; exact h1
    have h2' : f'[n]? = some a := by
      obtain ⟨t, e⟩ := st.pre
      rw [← e, List.getElem?_append_left hn]; exact h2
    rw [zOf a (List.mem_of_getElem? h2)]
    exact rm.off n c a h1' h2'
  · intro e
    exact rm0.inH a ha (st.dom a e)
/-- a call by data alone may run on no cells -/
theorem RelM.none (rm : RelM K H Z f M) : RelM K H Z [] [] := ⟨rm.sub, rfl, List.nodup_nil, fun n c a h _ => by simp at h, fun n c a h _ => by simp at h, fun a h => by cases h⟩
theorem pure_rep : ∀ {vs : List V} {ws : List W}, RepWs K Z f vs ws → ws.all W.pure = true → RepWs K Z [] vs ws
  | _, _, .nil, _ => .nil
  | _, _, .cons r t, h => by
    rw [List.all_cons, Bool.and_eq_true] at h
    refine .cons ?_ (pure_rep t h.2)
    cases r with
    | d r => exact .d r
    | r _ => cases h.1
/-- what lies of the cells that a call did not see -/
theorem cell_keep (rm0 : RelM K H Z f M) (st : Stp Z [] H Z' f' H') {Z2 : Hp} {f2 : List Addr} (same : Same Z Z2) (pf : f <+: f2) {n : Nat} {c : Cell} {a : Addr} (h1 : M[n]? = some c) (h2 : f[n]? = some a) : CellAt K Z2 f2 H' a c := by
  have hc := rm0.cell n c a h1 h2
  cases c with
  | lst ws =>
    obtain ⟨vs, q1, q2⟩ := hc
    exact ⟨vs, st.fr a _ q1 (by simp), q2.mono same pf⟩
  | dct ks ws =>
    obtain ⟨kvs, q1, q2, q3⟩ := hc
    exact ⟨kvs, st.fr a _ q1 (by simp), q2, q3.mono same pf⟩
  | ins _ _ => exact hc.elim
  | dead => trivial
theorem off_keep (rm0 : RelM K H Z f M) (st : Stp Z [] H Z' f' H') {n : Nat} {c : Cell} {a : Addr} (h1 : M[n]? = some c) (h2 : f[n]? = some a) : (c = .dead ∨ Z' a = none) ∧ a ∉ f' := by
  have hH : H a ≠ none := rm0.inH a (List.mem_of_getElem? h2)
  refine ⟨?_, fun h => ?_⟩
  · rcases rm0.off n c a h1 h2 with q | q
    · exact .inl q
    · refine .inr ?_
      cases e : Z' a with
      | none => rfl
      | some o =>
        rcases st.nz a o e with z | z | z
        · rw [q] at z; cases z
        · exact absurd z hH
        · cases z
  · rcases st.nf a h with z | z
    · cases z
    · exact hH z
/-- behind a call by data, nothing kept -/
theorem fin_pure (rm0 : RelM K H Z f M) (st : Stp Z [] H Z' f' H') (rm : RelM K H' Z' f' M') : Stp Z f H (frzH 0 Z' H' f') f H' ∧ RelM K H' (frzH 0 Z' H' f') f M := by
  have same := frzH_same (lo := 0) rm
  refine ⟨⟨st.z.trans same, List.prefix_refl _, fun a o e _ => st.fr a o e (by simp), st.dom, fun a o e => ?_, fun _ h => .inl h⟩, ⟨frzH_sub rm, rm0.len, rm0.nd, fun n c a h1 h2 => cell_keep rm0 st (st.z.trans same) (List.prefix_refl _) h1 h2, fun n c a h1 h2 => ?_, fun a ha e => rm0.inH a ha (st.dom a e)⟩⟩
  · unfold frzH at e
    split at e
    · rename_i hd
      rcases st.nf a (List.mem_of_mem_drop hd) with q | q
      · cases q
      · exact .inr (.inl q)
    · rcases st.nz a o e with q | q | q
      · exact .inl q
      · exact .inr (.inl q)
      · cases q
  · obtain ⟨q1, q2⟩ := off_keep rm0 st h1 h2
    unfold frzH
    rw [List.drop_zero, if_neg q2]
    exact q1
theorem up_rep (j : Nat) (hl : f.length = j) {v : V} {w : W} (r : RepW K Z f' v w) : RepW K Z (f ++ f') v (w.up j) := by
  cases r with
  | d r => exact .d r
  | r hf =>
    refine .r ?_
    rw [List.getElem?_append_right (by omega)]
    have : ∀ n, n + j - f.length = n := fun n => by omega
    rw [this]; exact hf
theorem up_reps (j : Nat) (hl : f.length = j) : ∀ {vs : List V} {ws : List W}, RepWs K Z f' vs ws → RepWs K Z (f ++ f') vs (ws.map (W.up j))
  | _, _, .nil => .nil
  | _, _, .cons r t => .cons (up_rep j hl r) (up_reps j hl t)
/-- behind a call by data that keeps its cells -/
theorem fin_keep (rm0 : RelM K H Z f M) (st : Stp Z [] H Z' f' H') (rm : RelM K H' Z' f' M') : Stp Z f H Z' (f ++ f') H' ∧ RelM K H' Z' (f ++ f') (M ++ M'.map (Cell.up M.length)) := by
  have pf : f <+: f ++ f' := List.prefix_append _ _
  have fresh : ∀ a, a ∈ f' → H a = none := fun a h => (st.nf a h).resolve_left (by simp)
  refine ⟨⟨st.z, pf, fun a o e _ => st.fr a o e (by simp), st.dom, fun a o e => ?_, fun a h => ?_⟩, ⟨rm.sub, ?_, ?_, fun n c a h1 h2 => ?_, fun n c a h1 h2 => ?_, fun a ha => ?_⟩⟩
  · rcases st.nz a o e with q | q | q
    · exact .inl q
    · exact .inr (.inl q)
    · cases q
  · rcases List.mem_append.mp h with q | q
    · exact .inl q
    · exact .inr (fresh a q)
  · rw [List.length_append, List.length_append, List.length_map, rm0.len, rm.len]
  · rw [List.nodup_append]
    refine ⟨rm0.nd, rm.nd, fun a ha b hb e => ?_⟩
    subst e
    exact rm0.inH a ha (fresh a hb)
  · by_cases hn : n < f.length
    · rw [List.getElem?_append_left hn] at h2
      rw [List.getElem?_append_left (by rw [← rm0.len]; exact hn)] at h1
      exact cell_keep rm0 st st.z pf h1 h2
    · rw [List.getElem?_append_right (by omega)] at h2
      rw [List.getElem?_append_right (by rw [← rm0.len]; omega), List.getElem?_map, ← rm0.len] at h1
      cases e : M'[n - f.length]? with
      | none => rw [e] at h1; cases h1
      | some c' =>
        rw [e] at h1
        have h1 := Option.some.inj h1
        subst h1
        have hc := rm.cell _ c' a e h2
        cases c' with
        | lst ws => obtain ⟨vs, q1, q2⟩ := hc; exact ⟨vs, q1, up_reps f.length rfl q2⟩
        | dct ks ws => obtain ⟨kvs, q1, q2, q3⟩ := hc; exact ⟨kvs, q1, q2, up_reps f.length rfl q3⟩
        | ins _ _ => exact hc.elim
        | dead => trivial
  · by_cases hn : n < f.length
    · rw [List.getElem?_append_left hn] at h2
      rw [List.getElem?_append_left (by rw [← rm0.len]; exact hn)] at h1
      exact (off_keep rm0 st h1 h2).1
    · rw [List.getElem?_append_right (by omega)] at h2
      rw [List.getElem?_append_right (by rw [← rm0.len]; omega), List.getElem?_map, ← rm0.len] at h1
      cases e : M'[n - f.length]? with
      | none => rw [e] at h1; cases h1
      | some c' =>
        rw [e] at h1
        have h1 := Option.some.inj h1
        subst h1
        rcases rm.off _ c' a e h2 with q | q
        · subst q; exact .inl rfl
        · exact .inr q
  · rcases List.mem_append.mp ha with q | q
    · exact fun e => rm0.inH a q (st.dom a e)
    · exact rm.inH a q
/-- behind a call: all four -/
theorem fin_ok {XR : XRT} {W : WX} {keep pu : Bool} {w : TN.W} {v : V} {Q : VK} (rm0 : RelM K H Z f M) (st : Stp Z (if pu then [] else f) H Z' f' H') (rm : RelM K H' Z' f' M') (r : RepW K Z' f' v w)
    (h : Post ⟨K, XR, W⟩ (fun _ Z f v w => RepW K Z f v w) [] Z f H (fin keep pu M w M') Q) : Q v H' := by
  cases keep with
  | true =>
    cases pu with
    | true =>
      obtain ⟨a, b⟩ := fin_keep rm0 st rm
      exact h v H' _ _ a b (up_rep _ rm0.len r)
    | false => exact h v H' Z' f' st rm r
  | false =>
    cases pu with
    | true =>
      obtain ⟨a, b⟩ := fin_pure rm0 st rm
      obtain ⟨d, e, h⟩ := Post.of h
      exact h v H' _ _ a b (.d (frzW_rep rm _ r e))
    | false =>
      obtain ⟨d, e, h⟩ := Post.of h
      split at h
      · rename_i hb
        obtain ⟨a, b⟩ := fin_below rm0 st rm hb
        exact h v H' _ _ a b (.d (frzW_rep rm _ r e))
      · exact h.elim
end
/-! ### the start of a frame -/
theorem reps_get {K : PySem.W.Frag} {Z : Hp} {f : List Addr} : ∀ {vs : List V} {ws : List W}, RepWs K Z f vs ws → ∀ {i : Nat} {w : W}, ws[i]? = some w → ∃ v, vs[i]? = some v ∧ RepW K Z f v w := fun r _ _ e => r.get e
theorem start_rel {K : PySem.W.Frag} {Z : Hp} {f : List Addr} {vs : List V} {ws : List W} {N : List PySem.Str} {n : Nat} (r : RepWs K Z f vs ws) (hn : N.length = n) : RelS K Z f (L2.start N vs) (startEnv n ws) := by
  refine ⟨?_, fun i w e => ?_⟩
  · unfold L2.start startEnv
    rw [List.length_append, List.length_append, List.length_map, List.length_map, List.length_replicate, List.length_replicate, r.length, hn]
    exact Nat.le_refl _
  · unfold startEnv at e
    by_cases hi : i < ws.length
    · rw [List.getElem?_append_left (by simpa using hi), List.getElem?_map] at e
      cases q : ws[i]? with
      | none => rw [q] at e; cases e
      | some x =>
        rw [q] at e
        have e := Option.some.inj (Option.some.inj e)
        subst e
        obtain ⟨v, h1, h2⟩ := r.get q
        refine ⟨v, ?_, h2⟩
        unfold L2.start
        have hv := (List.getElem?_eq_some_iff.mp h1).1
        rw [List.getElem?_append_left (by simpa using hv), List.getElem?_map, h1]
        rfl
    · rw [List.getElem?_append_right (by simpa using hi), List.getElem?_replicate] at e
      split at e <;> cases e
/-! ### the link -/
structure DefOk (P : Pr) (K : PySem.W.Frag) (mg : PySem.Str → Option Value) (nm : Nat → Option (PySem.Str × Nat)) (cn : Nat → Option PySem.Str) (g : Nat) (x : PySem.Str) (n : Nat) (f : Addr) (fd : FuncData) (ps : List PySem.Str) : Prop where
  ex : ∃ (d : FD) (qual : PySem.Str) (params : Arguments) (body : List Stmt) (scope : Scope) (N : List PySem.Str), P.fd g = some d ∧ d.pars = n ∧ FunD K x qual params body scope [] [] f fd ∧ FnScope N ps scope ∧ N.length = d.N.length ∧
    agSs d.body ⟨N, scope, fun _ => true, nm, cn⟩ body = true
  len : ps.length = n
  bn : Binds K fd ps []
  mg : mg x = some (.ref f)
structure Lk (P : Pr) (K : PySem.W.Frag) (w : World) (mg : PySem.Str → Option Value) (nm : Nat → Option (PySem.Str × Nat)) (cn : Nat → Option PySem.Str) : Prop where
  defs : ∀ g x n, nm g = some (x, n) → ∃ f fd ps, DefOk P K mg nm cn g x n f fd ps
  cns : ∀ g x, cn g = some x → CnOk K w mg x (P.con g)
  blt : ∀ x, x ∈ bltNames → mg x = none
theorem fun_ok {P : Pr} {K : PySem.W.Frag} {mg : PySem.Str → Option Value} {nm : Nat → Option (PySem.Str × Nat)} {cn : Nat → Option PySem.Str} {w : World} (L : Lk P K w mg nm cn) (prog : Program) (base : Heap) (XR : XRT) :
    ∀ n g x m f fd ps, DefOk P K mg nm cn g x m f fd ps → FnOk prog w K mg base (L2N.CX prog w) n f fd ps (spW K XR (run P n) g m) := by
  intro n
  induction n with
  | zero =>
    intro g x m f fd ps d
    refine ⟨fun vs H Q E h => by rw [d.len]; exact h.1, fun A outer s H args us vs Q E _ _ _ _ h => ?_⟩
    obtain ⟨_, ws, Z, f, M, _, _, h⟩ := h
    exact h.elim
  | succ n ih =>
    intro g x m f fd ps dk
    obtain ⟨d, qual, params, body, scope, N, h1, h2, h3, h4, h6, h7⟩ := dk.ex
    refine h3.ok h4 (fun vs H Q E h => by rw [dk.len]; exact h.1) fun cdv A outer s H vs Q E hr h => ?_
    obtain ⟨hl, ws, Z, f2, M, rm, rp, h⟩ := h
    have o : XO XR (fun cls d _ H => E cls d H) ⟨run P n, P.con, P.wf⟩ ⟨N, scope, fun _ => true, nm, cn⟩ n (cxOf (L2N.CX prog w) prog w K mg base N qual scope f cdv A outer s H E) :=
      { calm := rfl, nd := h4.nd, hN := rfl, hsc := rfl, hfn := fun _ _ => rfl, room := hr, tk := L2N.takes_of rfl rfl rfl rfl,
        fns := fun g x n h => by
          obtain ⟨f, fd, ps, dk⟩ := L.defs g x n h
          obtain ⟨d, qual, params, body, scope, N, h1, h2, h3, h4, h6, h7⟩ := dk.ex
          exact ⟨f, fd, ps, ih g x n f fd ps dk, dk.mg, h3.kp, dk.bn, dk.len⟩,
        cns := L.cns, blt := L.blt }
    refine ⟨_, sndSs o (passes_of rfl) d.body body h7, ?_⟩
    unfold run at h
    simp only [h1] at h
    split at h
    · by_cases hp : ws.all W.pure = true
      · rw [if_pos hp] at h
        refine ⟨startEnv d.N.length ws, Z, [], [], rm.none, start_rel (pure_rep rp hp) h6, ?_⟩
        cases q : evSs ⟨run P n, P.con, P.wf⟩ d.body (startEnv d.N.length ws) [] with
        | stuck => rw [q] at h; exact h.elim
        | exn x s m => rw [q] at h; exact h.elim
        | ok p =>
          obtain ⟨fl, s', M'⟩ := p
          rw [q] at h
          intro σ' H' Z' f' st rm' rs'
          cases fl with
          | nx => rw [hp] at h; exact fin_ok (pu := true) rm st rm' (.d .non) h
          | brk => exact h.elim
          | cnt => exact h.elim
          | ret w => rw [hp] at h; exact fun v r => fin_ok (pu := true) rm st rm' r h
      · rw [if_neg hp] at h
        have hp : ws.all W.pure = false := by simpa using hp
        refine ⟨startEnv d.N.length ws, Z, f2, M, rm, start_rel rp h6, ?_⟩
        cases q : evSs ⟨run P n, P.con, P.wf⟩ d.body (startEnv d.N.length ws) M with
        | stuck => rw [q] at h; exact h.elim
        | exn x s m => rw [q] at h; exact h.elim
        | ok p =>
          obtain ⟨fl, s', M'⟩ := p
          rw [q] at h
          intro σ' H' Z' f' st rm' rs'
          cases fl with
          | nx => rw [hp] at h; exact fin_ok (pu := false) rm st rm' (.d .non) h
          | brk => exact h.elim
          | cnt => exact h.elim
          | ret w => rw [hp] at h; exact fun v r => fin_ok (pu := false) rm st rm' r h
    · exact h.elim
/-- the law's promise at a script -/
theorem law_sp {P : Pr} {K : PySem.W.Frag} {H : Hp} {a : Addr} {ns : List Int} {n g : Nat} (hS : SqL K H a (ns.map V.int)) (h : run P n g [.d (.scr (ns.map D.int))] [] = .ok (.d (.bl true), [])) :
    spW K (fun _ _ _ _ => False) (run P n) g 1 [.ref a] H (fun v _ => v = .bl true) fun _ _ _ => False := by
  refine ⟨rfl, [.d (.scr (ns.map D.int))], H, [], [], ⟨Same.refl _, rfl, List.nodup_nil, fun n c a h _ => by simp at h, fun n c a h _ => by simp at h, fun a h => by cases h⟩, .cons (.d (.scr hS ?_)) .nil, ?_⟩
  · clear h hS
    induction ns with
    | nil => exact .nil
    | cons i ns ih => exact .cons (.int i) ih
  · rw [h]
    intro v H' Z' f' st rm r
    cases r with
    | d r => cases r; rfl
end TN

/-! TNo: the end of a law. -/
namespace TN
open PySem PySem.Spec PyProof.Rows L2
theorem walk_w {l : PySem.W.OpenLaw} {n k : Nat} {q : Program} {loose : List PySem.Str} {XP : (PySem.Str → Option Value) → Heap → Prop} {YP : World → Heap → Prop} {d : DefRec} {x : PySem.Str}
    (hn : l.most = some n) (hn2 : n ≤ sizeLine) (hdf : d.params.defaults = []) (hr : Room k callerA)
    (F : ∀ (w : World) (mg : PySem.Str → Option Value) (fa : Addr) (h : Heap), YP w h → h.Ns mainGlobals mg → mg d.name = some (.ref fa) →
      ∃ (K : PySem.W.Frag) (fd : FuncData) (sp : Sp), K.In h ∧ (∀ (s : Shared) (u : Value), BindsTo s fd ⟨[u], []⟩ [(x, u)]) ∧
        (∀ (H : Hp) (a : Addr) (ns : List Int), ns.length ≤ n → Only H → SqL K H a (ns.map V.int) → sp [.ref a] H (fun v _ => v = .bl true) fun _ _ _ => False) ∧
        ∀ base : Heap, K.In base → base.Ns mainGlobals mg → FnOk l.prog w K mg base (L2N.CX l.prog w) k fa fd [x] sp) :
    PySem.W.WalkO q loose XP YP l.row.toRowW d [] (fun f vs => PySem.call f vs) := by
  refine Att.attach_call hn hdf fun w s₀ s₁ mg mb fa o pm cd doc a vs ns G Y ho hd hcd hmg hobj hints hlen hg => ?_
  obtain ⟨K, fd, sp, KX, hb, hsp, hF⟩ := F w mg fa _ Y G.T.g hmg
  refine law_call KX G.T.g G.T.b G.T.builtins G.T.nolimit hg hobj hints (Nat.le_trans hlen hn2) hr hF hb (fun H hO hS => hsp H a ns hlen hO hS) fun H e s' h => ?_
  obtain ⟨_, _, _, _, _, _, _, _, _, _, _, _, h⟩ := h
  exact h
end TN

/-! TNco: constants that are tuples; a hook that looks at them, too. -/
namespace TN
open PySem PySem.Spec PyProof.Rows L2
mutual
/-- the value says the datum -/
def vOk (K : PySem.W.Frag) : D → Value → Bool
  | .int i, .int j _ => decide (i = j)
  | .str s, .str t _ => decide (toS s = t)
  | .tup ds, .ref a => (match K.lookup a with
    | some ⟨.type c, _, .seq its _, _⟩ => decide (c = "tuple") && decide (its.size ≤ sizeLine) && vOks K ds its.toList
    | _ => false)
  | _, _ => false
def vOks (K : PySem.W.Frag) : List D → List Value → Bool
  | [], [] => true
  | d :: ds, u :: us => vOk K d u && vOks K ds us
  | _, _ => false
end
mutual
theorem vOk_ok (K : PySem.W.Frag) : ∀ (d : D) (u : Value), vOk K d u = true → ∃ v, RelV v u ∧ ∀ Z : Hp, RepD K Z v d
  | .int i, u, h => by
    cases u <;> simp only [vOk] at h <;> try (cases h; done)
    have := of_decide_eq_true h
    subst this
    exact ⟨.int i, ⟨_, rfl⟩, fun Z => .int i⟩
  | .str s, u, h => by
    cases u <;> simp only [vOk] at h <;> try (cases h; done)
    have := of_decide_eq_true h
    subst this
    exact ⟨.str (toS s), ⟨_, rfl⟩, fun Z => .str s⟩
  | .tup ds, u, h => by
    cases u <;> simp only [vOk] at h <;> try (cases h; done)
    rename_i a
    split at h
    · rename_i c dt its n sl q
      simp only [Bool.and_eq_true, decide_eq_true_eq] at h
      obtain ⟨⟨rfl, h2⟩, h3⟩ := h
      obtain ⟨vs, r1, r2⟩ := vOks_ok K ds its.toList h3
      exact ⟨.ref a, rfl, fun Z => .tup (.inr ⟨_, its, n, q, rfl, rfl, h2, r1⟩) (r2 Z)⟩
    · cases h
  | .non, u, h => by cases u <;> simp [vOk] at h
  | .bl _, u, h => by cases u <;> simp [vOk] at h
  | .lst _, u, h => by cases u <;> simp [vOk] at h
  | .dct _ _, u, h => by cases u <;> simp [vOk] at h
  | .scr _, u, h => by cases u <;> simp [vOk] at h
theorem vOks_ok (K : PySem.W.Frag) : ∀ (ds : List D) (us : List Value), vOks K ds us = true → ∃ vs, Vals vs us ∧ ∀ Z : Hp, RepDs K Z vs ds
  | [], [], _ => ⟨[], .nil, fun Z => .nil⟩
  | [], _ :: _, h => by simp [vOks] at h
  | _ :: _, [], h => by simp [vOks] at h
  | d :: ds, u :: us, h => by
    simp only [vOks, Bool.and_eq_true] at h
    obtain ⟨v, r1, r2⟩ := vOk_ok K d u h.1
    obtain ⟨vs, r3, r4⟩ := vOks_ok K ds us h.2
    exact ⟨v :: vs, .cons r1 r3, fun Z => .cons (r2 Z) (r4 Z)⟩
end
/-- the module's name x stands for the datum -/
def cOk (x : PySem.Str) (d : D) (K : PySem.W.Frag) : Bool := match PySem.W.nsIn K mainGlobals x with
  | some (some u) => vOk K d u
  | _ => false
theorem cOk_ok {K : PySem.W.Frag} {h : Heap} {mg : PySem.Str → Option Value} (X : K.In h) (G : h.Ns mainGlobals mg) {x : PySem.Str} {d : D} (c : cOk x d K = true) : ∃ v u, mg x = some u ∧ RelV v u ∧ ∀ Z : Hp, RepD K Z v d := by
  unfold cOk at c
  split at c
  · rename_i u e
    obtain ⟨v, r1, r2⟩ := vOk_ok K d u c
    exact ⟨v, u, PySem.W.mg_of X G e, r1, r2⟩
  · cases c
/-- facts, defs, and a further look -/
def obsC (n : Nat) (fa : List He.Fa) (fn : List He.DefD) (ex : PySem.W.Frag → Bool) (g : Addr → Option Obj) : He.AlD × Bool := (He.obsDG n fa fn g, ex (He.frG g (He.asD g n)))
def hookC (n : Nat) (fa : List He.Fa) (fn : List He.DefD) (ex : PySem.W.Frag → Bool) : PySem.W.Hook where
  α := He.AlD × Bool
  obs := fun s => obsC n fa fn ex s.heap.get?
  val := fun _ => (He.valD fn, true)
  says := fun _ h => ∃ K : PySem.W.Frag, K.In h ∧ He.SaysD fa fn K ∧ ex K = true
  of := fun _ _ e => ⟨_, He.frG_in, congrArg (fun z : He.AlD × Bool => z.1) e, congrArg (fun z : He.AlD × Bool => z.2) e⟩
  keeps := fun _ _ _ ⟨K, hK, c⟩ k => ⟨K, PySem.W.Frag.In.keeps hK k, c⟩
theorem obsC_eq {n : Nat} {fa : List He.Fa} {fn : List He.DefD} {ex : PySem.W.Frag → Bool} {g : Addr → Option Obj} {s : Shared} (h : ∀ a, g a = s.heap.get? a) : obsC n fa fn ex g = (hookC n fa fn ex).obs s := by
  have e : g = s.heap.get? := funext h
  rw [e] <;> rfl
/-! ### dicts of the module, texts as keys, integers as values -/
/-- where the dict x lies -/
def dcA (K : PySem.W.Frag) (x : PySem.Str) : Option Addr := match PySem.W.nsIn K mainGlobals x with
  | some (some (.ref a)) => some a
  | _ => none
def dcK (K : PySem.W.Frag) (x : PySem.Str) : Option (List (Option (PySem.Str × Int))) := (dcA K x).bind fun a => He.dicW K a
def dvOk (K : PySem.W.Frag) (x : PySem.Str) (ks : List Tx) (is : List Int) : Bool := match dcA K x with
  | some a => decide (ks.length = is.length) && (ks.zip is).all fun p => match PySem.W.nsIn K a (toS p.1) with
    | some (some (.int j _)) => decide (j = p.2)
    | _ => false
  | none => false
theorem find_ks {P : Params} (z : PySem.Str) : ∀ (l : List DictEntry) (ks : List PySem.Str), l.map He.keyOf = He.keysIn P ks → (z ∉ ks → l.find? (fun e => e.key.isStr z) = none) ∧ (z ∈ ks → (∃ e, l.find? (fun e => e.key.isStr z) = some e)) ∧ l.any (fun e => e.refKey) = false
  | [], [], _ => ⟨fun _ => rfl, fun h => (by cases h), rfl⟩
  | [], _ :: _, h => by cases h
  | _ :: _, [], h => by cases h
  | e :: l, k :: ks, h => by
    have h1 : He.keyOf e :: l.map He.keyOf = some (k, PyData.keyHash P k) :: He.keysIn P ks := h
    injection h1 with h2 h3
    obtain ⟨i1, i2, i3⟩ := find_ks z l ks h3
    have he : ∃ t, e.key = .str k t := by
      unfold He.keyOf at h2
      split at h2
      · rename_i x t q
        have h4 := Option.some.inj h2
        obtain ⟨h5, h6⟩ := Prod.mk.inj h4
        exact ⟨t, by rw [q, h5]⟩
      · cases h2
    obtain ⟨t, hk⟩ := he
    have hs : e.key.isStr z = decide (k = z) := by
      rw [hk]
      rfl
    refine ⟨fun hn => ?_, fun hm => ?_, ?_⟩
    · rw [List.find?_cons_of_neg]
      · exact i1 fun c => hn (List.mem_cons_of_mem _ c)
      · rw [hs]
        simpa using fun c : k = z => hn (by rw [← c]; exact List.mem_cons_self ..)
    · by_cases c : k = z
      · exact ⟨e, by rw [List.find?_cons_of_pos]; rw [hs]; simpa using c⟩
      · rcases List.mem_cons.mp hm with rfl | hm
        · exact absurd rfl c
        · obtain ⟨e2, h⟩ := i2 hm
          exact ⟨e2, by rw [List.find?_cons_of_neg]; exact h; rw [hs]; simpa using c⟩
    · rw [List.any_cons, i3, Bool.or_false]
      unfold DictEntry.refKey
      rw [hk]
theorem dget_zipI {t : Tx} {i : Int} : ∀ {ks : List Tx} {is : List Int}, dget (Ky.s t) (ks.map Ky.s) (is.map D.int) = some (.int i) → (t, i) ∈ ks.zip is
  | [], _, h => by simp [dget] at h
  | _ :: _, [], h => by simp [dget] at h
  | k :: ks, j :: is, h => by
    simp only [List.map_cons, dget] at h
    rw [List.zip_cons_cons]
    split at h
    · rename_i e
      cases e
      cases h
      exact List.mem_cons_self ..
    · exact List.mem_cons_of_mem _ (dget_zipI h)
theorem dc_ok {K : PySem.W.Frag} {w : World} {h : Heap} {mg : PySem.Str → Option Value} (X : K.In h) (G : h.Ns mainGlobals mg) {x : PySem.Str} {ks : List Tx} {is : List Int} (hk : dcK K x = some (He.keysIn w.params (ks.map toS))) (hv : dvOk K x ks is = true) : ∃ a, mg x = some (.ref a) ∧ KD K w a ks is := by
  unfold dcK at hk
  unfold dvOk at hv
  cases ha : dcA K x with
  | none => rw [ha] at hk; cases hk
  | some a =>
    rw [ha] at hk hv
    simp only [Option.bind_some] at hk
    simp only [Bool.and_eq_true, decide_eq_true_eq] at hv
    have hx : PySem.W.nsIn K mainGlobals x = some (some (.ref a)) := by
      unfold dcA at ha
      split at ha
      · rename_i b e
        cases ha
        exact e
      · cases ha
    have hd := hk
    unfold He.dicW at hd
    split at hd
    · rename_i c es n slo q
      split at hd
      · rename_i hcond
        have hkeys := Option.some.inj hd
        have nsE : ∀ z : PySem.Str, PySem.W.nsIn K a z = match es.toList.find? (fun e => e.key.isStr z) with
          | some e => some (some e.val)
          | none => if es.toList.any (fun e => e.refKey) then none else some none := fun z => by
          unfold PySem.W.nsIn
          rw [q]
          rfl
        refine ⟨a, PySem.W.mg_of X G hx, ⟨He.dicW_ok hk, fun t ht => ?_, fun t ht => ?_, fun t i hi => ?_⟩⟩
        · obtain ⟨i1, i2, i3⟩ := find_ks (toS t) es.toList (ks.map toS) hkeys
          rw [nsE, i1 (fun c => ht (by
            obtain ⟨y, hy, e⟩ := List.mem_map.mp c
            rw [← toS_inj e]; exact hy)), i3]
          rfl
        · obtain ⟨i1, i2, i3⟩ := find_ks (toS t) es.toList (ks.map toS) hkeys
          obtain ⟨e, he⟩ := i2 (List.mem_map.mpr ⟨t, ht, rfl⟩)
          exact ⟨e.val, by rw [nsE, he]⟩
        · have := List.all_eq_true.mp hv.2 _ (dget_zipI hi)
          simp only at this
          split at this
          · rename_i j tk e
            rw [of_decide_eq_true this] at e
            exact ⟨tk, e⟩
          · cases this
      · cases hd
    · cases hd
/-- facts, defs, a further look, dicts -/
abbrev AlE : Type := (He.AlD × Bool) × List (Option (List (Option (PySem.Str × Int))))
def obsE (n : Nat) (fa : List He.Fa) (fn : List He.DefD) (ex : PySem.W.Frag → Bool) (ts : List (PySem.Str × List Tx)) (g : Addr → Option Obj) : AlE := ((He.obsDG n fa fn g, ex (He.frG g (He.asD g n))), ts.map fun t => dcK (He.frG g (He.asD g n)) t.1)
def valE (fn : List He.DefD) (ts : List (PySem.Str × List Tx)) (w : World) : AlE := ((He.valD fn, true), ts.map fun t => some (He.keysIn w.params (t.2.map toS)))
def hookE (n : Nat) (fa : List He.Fa) (fn : List He.DefD) (ex : PySem.W.Frag → Bool) (ts : List (PySem.Str × List Tx)) : PySem.W.Hook where
  α := AlE
  obs := fun s => obsE n fa fn ex ts s.heap.get?
  val := fun w => valE fn ts w
  says := fun w h => ∃ K : PySem.W.Frag, K.In h ∧ He.SaysD fa fn K ∧ ex K = true ∧ ts.map (fun t => dcK K t.1) = ts.map fun t => some (He.keysIn w.params (t.2.map toS))
  of := fun _ _ e => ⟨_, He.frG_in, congrArg (fun z : AlE => z.1.1) e, congrArg (fun z : AlE => z.1.2) e, congrArg (fun z : AlE => z.2) e⟩
  keeps := fun _ _ _ ⟨K, hK, c⟩ k => ⟨K, PySem.W.Frag.In.keeps hK k, c⟩
theorem obsE_eq {n : Nat} {fa : List He.Fa} {fn : List He.DefD} {ex : PySem.W.Frag → Bool} {ts : List (PySem.Str × List Tx)} {g : Addr → Option Obj} {s : Shared} (h : ∀ a, g a = s.heap.get? a) : obsE n fa fn ex ts g = (hookE n fa fn ex ts).obs s := by
  have e : g = s.heap.get? := funext h
  rw [e] <;> rfl
theorem ts_get {K : PySem.W.Frag} {w : World} {ts : List (PySem.Str × List Tx)} (h : ts.map (fun t => dcK K t.1) = ts.map fun t => some (He.keysIn w.params (t.2.map toS))) (i : Nat) {t : PySem.Str × List Tx} (ht : ts[i]? = some t) : dcK K t.1 = some (He.keysIn w.params (t.2.map toS)) := by
  have e : (ts.map fun t => dcK K t.1)[i]? = (ts.map fun t => some (He.keysIn w.params (t.2.map toS)))[i]? := by rw [h]
  rw [List.getElem?_map, List.getElem?_map, ht] at e
  exact Option.some.inj e
end TN

/-! TNp: what is wanted of a run. -/
namespace TN
def Wp {α : Type} (r : R α) (Q : α → Prop) : Prop := match r with
  | .ok a => Q a
  | _ => False
section
variable {α β : Type} {Q : α → Prop}
@[simp] theorem wp_ok (a : α) : Wp (.ok a) Q = Q a := rfl
@[simp] theorem wp_stuck : Wp (.stuck : R α) Q = False := rfl
@[simp] theorem wp_bind (r : R β) (k : β → R α) : Wp (r.bind k) Q = Wp r fun b => Wp (k b) Q := by cases r <;> rfl
@[simp] theorem wp_from (r : R α) (s : Env) : Wp (r.from s) Q = Wp r Q := by cases r <;> rfl
@[simp] theorem wp_of (o : Option α) : Wp (R.of o) Q = ∃ a, o = some a ∧ Q a := by
  cases o with
  | none => simp [Wp]
  | some a => simp
theorem Wp.mono {Q' : α → Prop} {r : R α} (h : Wp r Q) (k : ∀ a, Q a → Q' a) : Wp r Q' := by
  cases r with
  | ok a => exact k a h
  | exn _ _ _ => exact h
  | stuck => exact h
theorem Wp.get {r : R α} (h : Wp r Q) : ∃ a, r = .ok a ∧ Q a := by
  cases r with
  | ok a => exact ⟨a, rfl, h⟩
  | exn _ _ _ => exact h.elim
  | stuck => exact h.elim
theorem wp_if (c : Prop) [Decidable c] (a b : R α) : Wp (if c then a else b) Q = if c then Wp a Q else Wp b Q := by split <;> rfl
theorem Wp.of_eq {r : R α} {a : α} (e : r = .ok a) (h : Q a) : Wp r Q := by rw [e]; exact h
end
/-- no cell within -/
def Cell.pure : Cell → Bool
  | .lst ws => ws.all W.pure
  | .dct _ ws => ws.all W.pure
  | .ins _ _ => false
  | .dead => true
theorem W.pure_below {w : W} (h : w.pure = true) (n : Nat) : w.below n = true := by
  cases w with
  | d x => rfl
  | r k => cases h
theorem Cell.pure_below {c : Cell} (h : c.pure = true) (n : Nat) : c.below n = true := by
  cases c with
  | lst ws => exact List.all_eq_true.mpr fun w hw => (List.all_eq_true.mp h w hw) |> fun h => W.pure_below h n
  | dct ks ws => exact List.all_eq_true.mpr fun w hw => (List.all_eq_true.mp h w hw) |> fun h => W.pure_below h n
  | ins _ _ => cases h
  | dead => rfl
abbrev Pu (M : Store) : Prop := M.all Cell.pure = true
/-- a call of a def that keeps nothing, by data and cells; its cells are data -/
theorem run_cells {P : Pr} {k f : Nat} {ws : List W} {M : Store} {fd : FD} {Q : W × Store → Prop} (hf : P.fd f = some fd) (hl : ws.length = fd.pars) (hp : ws.all W.pure = false) (hk : fd.keep = false)
    (h : ∀ F, F = run P k → Wp (evSs ⟨F, P.con, P.wf⟩ fd.body (startEnv fd.N.length ws) M) fun r => Pu r.2.2 ∧ ∃ d, (match r.1 with | .nx => d = .non | .ret w => w = .d d | _ => False) ∧ Q (.d d, r.2.2.take M.length)) : Wp (run P (k + 1) f ws M) Q := by
  obtain ⟨⟨fl, s, M'⟩, e, hp', d, hd, hq⟩ := (h _ rfl).get
  unfold run
  simp only [hf, hl, if_true, hp, Bool.false_eq_true, if_false, e]
  have hb : (M'.take M.length).all (Cell.below M.length) = true := List.all_eq_true.mpr fun c hc => Cell.pure_below (List.all_eq_true.mp hp' c (List.mem_of_mem_take hc)) _
  have fz : ∀ k, frzW M' M.length k (.d d) = some d := fun k => by cases k <;> rfl
  cases fl with
  | nx =>
    simp only at hd
    subst hd
    simp only [hk, fin, fz, R.of_some, R.bind_ok, hb, if_true, wp_ok]
    exact hq
  | ret w =>
    simp only at hd
    subst hd
    simp only [hk, fin, fz, R.of_some, R.bind_ok, hb, if_true, wp_ok]
    exact hq
  | brk => exact hd.elim
  | cnt => exact hd.elim
/-- a call by data, whatever the store -/
theorem run_pureW {P : Pr} {k f : Nat} {ws : List W} {M : Store} {fd : FD} {d : D} (hf : P.fd f = some fd) (hl : ws.length = fd.pars) (hp : ws.all W.pure = true) (hk : fd.keep = false)
    (h : ∀ F, F = run P k → Wp (evSs ⟨F, P.con, P.wf⟩ fd.body (startEnv fd.N.length ws) []) fun r => r.1 = .ret (.d d)) : run P (k + 1) f ws M = .ok (.d d, M) := by
  obtain ⟨⟨fl, s, M'⟩, e, hd⟩ := (h _ rfl).get
  simp only at hd
  subst hd
  have fz : ∀ k, frzW M' 0 k (.d d) = some d := fun k => by cases k <;> rfl
  unfold run
  simp only [hf, hl, if_true, hp, e, hk, fin, fz, R.of_some, R.bind_ok]
/-- the same at another store -/
theorem run_frame {P : Pr} {k f : Nat} {ws : List W} {fd : FD} {d : D} (hf : P.fd f = some fd) (hp : ws.all W.pure = true) (hk : fd.keep = false) (h : run P (k + 1) f ws [] = .ok (.d d, [])) (M : Store) : run P (k + 1) f ws M = .ok (.d d, M) := by
  unfold run at h ⊢
  simp only [hf, hp, if_true, hk] at h ⊢
  split at h
  · rename_i hl
    rw [if_pos hl]
    cases q : evSs ⟨run P k, P.con, P.wf⟩ fd.body (startEnv fd.N.length ws) [] with
    | stuck => rw [q] at h; cases h
    | exn x s m => rw [q] at h; cases h
    | ok p =>
      obtain ⟨fl, s, M'⟩ := p
      rw [q] at h
      have go : ∀ w, fin false true [] w M' = .ok (.d d, []) → fin false true M w M' = .ok (.d d, M) := fun w h => by
        simp only [fin] at h ⊢
        cases e : frzW M' 0 (M'.length + 1) w with
        | none => rw [e] at h; cases h
        | some x =>
          rw [e] at h
          simp only [R.of_some, R.bind_ok, R.ok.injEq, Prod.mk.injEq, W.d.injEq, and_true] at h
          rw [h]; rfl
      cases fl with
      | nx => exact go _ h
      | ret w => exact go _ h
      | brk => cases h
      | cnt => cases h
  · cases h
theorem call_of {P : Pr} {k f : Nat} {ws : List W} {M : Store} {F : Nat → List W → Store → R (W × Store)} {Q : W × Store → Prop} (hF : F = run P k) (h : Wp (run P k f ws M) Q) : Wp (F f ws M) Q := by rw [hF]; exact h
def Ss.drop : Nat → Ss → Ss
  | 0, ss => ss
  | _ + 1, .nil => .nil
  | n + 1, .cons _ ss => ss.drop n
/-! ### statement by statement -/
section
variable {Γ : Ctx} {s s1 : Env} {M M1 M2 M3 M4 : Store} {Q : TN.Flow × Env × Store → Prop} {ss : Ss}
theorem wps_nil (h : Q (.nx, s, M)) : Wp (evSs Γ .nil s M) Q := by simp only [evSs, wp_ok]; exact h
theorem wps_asg {t : Tg} {e : E} (h1 : Wp (evE Γ e s M) fun r => ∃ s1, t.put (.one r.1) s = some s1 ∧ Wp (evSs Γ ss s1 r.2) Q) : Wp (evSs Γ (.cons (.asg t e) ss) s M) Q := by
  simp only [evSs, evS, wp_bind, wp_from, wp_of, wp_ok]
  exact h1.mono fun a ⟨s1, e, h⟩ => ⟨s1, e, h⟩
theorem wps_set {o i e : E} {w x y : W} (h1 : evE Γ e s M = .ok (w, M1)) (h2 : evE Γ o s M1 = .ok (x, M2)) (h3 : evE Γ i s M2 = .ok (y, M3)) (h4 : setSem M3 x y w = some M4) (h : Wp (evSs Γ ss s M4) Q) : Wp (evSs Γ (.cons (.set o i e) ss) s M) Q := by
  simp only [evSs, evS, h1, h2, h3, h4, R.from_ok, R.bind_ok, R.of_some]
  exact h
theorem wps_expr {e : E} (h1 : Wp (evE Γ e s M) fun r => Wp (evSs Γ ss s r.2) Q) : Wp (evSs Γ (.cons (.expr e) ss) s M) Q := by
  simp only [evSs, evS, wp_bind, wp_from, wp_ok]
  exact h1
theorem wps_ret {e : E} (h1 : Wp (evE Γ e s M) fun r => Q (.ret r.1, s, r.2)) : Wp (evSs Γ (.cons (.ret e) ss) s M) Q := by
  simp only [evSs, evS, wp_bind, wp_from, wp_ok]
  exact h1
theorem wps_if {c : E} {a b : Ss} {x : W} {t : Bool} (h1 : evE Γ c s M = .ok (x, M1)) (h2 : tru M1 x = some t)
    (h : Wp (if t then evSs Γ a s M1 else evSs Γ b s M1) fun r => match r.1 with | .nx => Wp (evSs Γ ss r.2.1 r.2.2) Q | _ => Q r) : Wp (evSs Γ (.cons (.ifs c a b) ss) s M) Q := by
  simp only [evSs, evS, evTest, h1, h2, R.from_ok, R.bind_ok, R.of_some, wp_bind]
  refine Wp.mono h fun r hr => ?_
  obtain ⟨fl, s', M'⟩ := r
  cases fl <;> exact hr
theorem wps_for {tg : Tg} {it : I} {b : Ss} {items : List Itm} {gs : List Nat} (h1 : evI Γ it s M = .ok (items, gs, M1))
    (h : Wp (forLoop tg.put (fun s M => evSs Γ b s M) gs s items s M1) fun r => match r.1 with | .nx => Wp (evSs Γ ss r.2.1 r.2.2) Q | _ => Q r) : Wp (evSs Γ (.cons (.for_ tg it b) ss) s M) Q := by
  simp only [evSs, evS, h1, R.from_ok, R.bind_ok, wp_bind]
  refine Wp.mono h fun r hr => ?_
  obtain ⟨fl, s', M'⟩ := r
  cases fl <;> exact hr
theorem wpf_nil {bt : Itm → Env → Option Env} {b : Env → Store → R (TN.Flow × Env × Store)} {gs : List Nat} {s0 : Env} (h : Q (.nx, mask s0 s, M)) : Wp (forLoop bt b gs s0 [] s M) Q := by
  simp only [forLoop, wp_ok]; exact h
theorem wpf_cons {bt : Itm → Env → Option Env} {b : Env → Store → R (TN.Flow × Env × Store)} {gs : List Nat} {s0 : Env} {x : Itm} {xs : List Itm} (h1 : bt x s = some s1)
    (h : Wp (b s1 M) fun r => match r.1 with
      | .nx => guard gs M r.2.2 = true ∧ Wp (forLoop bt b gs s0 xs (mask s0 r.2.1) r.2.2) Q
      | .cnt => guard gs M r.2.2 = true ∧ Wp (forLoop bt b gs s0 xs (mask s0 r.2.1) r.2.2) Q
      | .brk => Q (.nx, mask s0 r.2.1, r.2.2)
      | .ret w => Q (.ret w, r.2.1, r.2.2)) : Wp (forLoop bt b gs s0 (x :: xs) s M) Q := by
  simp only [forLoop, h1, R.of_some, R.bind_ok, wp_bind]
  refine Wp.mono h fun r hr => ?_
  obtain ⟨fl, s', M'⟩ := r
  cases fl with
  | nx =>
    simp only at hr ⊢
    rw [if_pos hr.1]; exact hr.2
  | cnt =>
    simp only at hr ⊢
    rw [if_pos hr.1]; exact hr.2
  | brk => exact hr
  | ret w => exact hr
theorem wpe_call {f : Nat} {es : Es} {ws : List W} {Q : W × Store → Prop} (h1 : evEs Γ es s M = .ok (ws, M1)) (h : Wp (Γ.fn f ws M1) Q) : Wp (evE Γ (.call f es) s M) Q := by
  simp only [evE, h1, R.bind_ok, wp_from]; exact h
theorem wpe_ok {e : E} {w : W} {Q : W × Store → Prop} (h1 : evE Γ e s M = .ok (w, M1)) (h : Q (w, M1)) : Wp (evE Γ e s M) Q := by rw [h1]; exact h
theorem eve_idx {a i : E} {x y w : W} (h1 : evE Γ a s M = .ok (x, M1)) (h2 : evE Γ i s M1 = .ok (y, M2)) (h3 : idxSem M2 x y = some w) : evE Γ (.idx a i) s M = .ok (w, M2) := by simp only [evE, h1, h2, h3, R.bind_ok, R.of_some]
theorem eve_bin {o : Bop} {a b : E} {x y w : W} (h1 : evE Γ a s M = .ok (x, M1)) (h2 : evE Γ b s M1 = .ok (y, M2)) (h3 : binSem o x y = some w) : evE Γ (.bin o a b) s M = .ok (w, M2) := by simp only [evE, h1, h2, h3, R.bind_ok, R.of_some]
theorem eve_bi {b : Bi} {es : Es} {ws : List W} {w : W} (h1 : evEs Γ es s M = .ok (ws, M1)) (h2 : biSem M1 b ws = some w) : evE Γ (.bi b es) s M = .ok (w, M1) := by simp only [evE, h1, h2, R.bind_ok, R.of_some]
theorem eve_one {e : E} {w : W} (h1 : evE Γ e s M = .ok (w, M1)) : evEs Γ (.cons e .nil) s M = .ok ([w], M1) := by simp only [evEs, h1, R.bind_ok]
theorem eve_cons {e : E} {es : Es} {w : W} {ws : List W} (h1 : evE Γ e s M = .ok (w, M1)) (h2 : evEs Γ es s M1 = .ok (ws, M2)) : evEs Γ (.cons e es) s M = .ok (w :: ws, M2) := by simp only [evEs, h1, h2, R.bind_ok]
theorem eve_tup {es : Es} {ws : List W} {ds : List D} (h1 : evEs Γ es s M = .ok (ws, M1)) (h2 : toDs ws = some ds) : evE Γ (.tup es) s M = .ok (.d (.tup ds), M1) := by simp only [evE, h1, h2, R.bind_ok, R.of_some]
theorem wps_ifT {c : E} {a b : Ss} {x : W} (h1 : evE Γ c s M = .ok (x, M1)) (h2 : tru M1 x = some true)
    (h : Wp (evSs Γ a s M1) fun r => match r.1 with | .nx => Wp (evSs Γ ss r.2.1 r.2.2) Q | _ => Q r) : Wp (evSs Γ (.cons (.ifs c a b) ss) s M) Q := wps_if h1 h2 h
theorem wps_ifF {c : E} {a b : Ss} {x : W} (h1 : evE Γ c s M = .ok (x, M1)) (h2 : tru M1 x = some false)
    (h : Wp (evSs Γ b s M1) fun r => match r.1 with | .nx => Wp (evSs Γ ss r.2.1 r.2.2) Q | _ => Q r) : Wp (evSs Γ (.cons (.ifs c a b) ss) s M) Q := wps_if h1 h2 h
theorem wps_ifN {c : E} {a : Ss} {x : W} (h1 : evE Γ c s M = .ok (x, M1)) (h2 : tru M1 x = some false) (h : Wp (evSs Γ ss s M1) Q) : Wp (evSs Γ (.cons (.ifs c a .nil) ss) s M) Q := wps_ifF h1 h2 (wps_nil (Γ := Γ) h)
theorem wpe_idx {a i : E} {Q : W × Store → Prop} (h : Wp (evE Γ a s M) fun r => Wp (evE Γ i s r.2) fun r2 => ∃ w, idxSem r2.2 r.1 r2.1 = some w ∧ Q (w, r2.2)) : Wp (evE Γ (.idx a i) s M) Q := by simp only [evE, wp_bind, wp_of, wp_ok]; exact h
theorem wpe_bin {o : Bop} {a b : E} {Q : W × Store → Prop} (h : Wp (evE Γ a s M) fun r => Wp (evE Γ b s r.2) fun r2 => ∃ w, binSem o r.1 r2.1 = some w ∧ Q (w, r2.2)) : Wp (evE Γ (.bin o a b) s M) Q := by simp only [evE, wp_bind, wp_of, wp_ok]; exact h
theorem wpe_bi {b : Bi} {es : Es} {Q : W × Store → Prop} (h : Wp (evEs Γ es s M) fun r => ∃ w, biSem r.2 b r.1 = some w ∧ Q (w, r.2)) : Wp (evE Γ (.bi b es) s M) Q := by simp only [evE, wp_bind, wp_of, wp_ok]; exact h
theorem wpe_tup {es : Es} {Q : W × Store → Prop} (h : Wp (evEs Γ es s M) fun r => ∃ ds, toDs r.1 = some ds ∧ Q (.d (.tup ds), r.2)) : Wp (evE Γ (.tup es) s M) Q := by simp only [evE, wp_bind, wp_of, wp_ok]; exact h
theorem wpe_frz {l : L} {Q : W × Store → Prop} (h : Wp (evL Γ l s M) fun r => ∃ ds, toDs r.1 = some ds ∧ Q (.d (.lst ds), r.2)) : Wp (evE Γ (.frz l) s M) Q := by simp only [evE, wp_bind, wp_of, wp_ok]; exact h
theorem wpe_cel {l : L} {Q : W × Store → Prop} (h : Wp (evL Γ l s M) fun r => Q (.r r.2.length, r.2 ++ [.lst r.1])) : Wp (evE Γ (.cel l) s M) Q := by simp only [evE, wp_bind, wp_of, wp_ok]; exact h
theorem wpe_callW {f : Nat} {es : Es} {Q : W × Store → Prop} (h : Wp (evEs Γ es s M) fun r => Wp (Γ.fn f r.1 r.2) Q) : Wp (evE Γ (.call f es) s M) Q := by simp only [evE, wp_bind, wp_from]; exact h
theorem wpe_cmp {o : Cop} {a b : E} {Q : W × Store → Prop} (h : Wp (evE Γ a s M) fun r => Wp (evE Γ b s r.2) fun r2 => ∃ k, cmpSem r2.2 o r.1 r2.1 = some k ∧ Q (.d (.bl k), r2.2)) : Wp (evE Γ (.cmp o a b) s M) Q := by simp only [evE, wp_bind, wp_of, wp_ok]; exact h
theorem wpe_mth {m : Mt} {o : E} {es : Es} {Q : W × Store → Prop} (h : Wp (evE Γ o s M) fun r => mtRcv r.2 m r.1 = true ∧ Wp (evEs Γ es s r.2) fun r2 => ∃ p, mtSem r2.2 m r.1 r2.1 = some p ∧ Q p) : Wp (evE Γ (.mth m o es) s M) Q := by
  simp only [evE, wp_bind]
  refine h.mono fun r hr => ?_
  rw [if_pos hr.1, wp_bind]
  simp only [wp_of]
  exact hr.2
theorem wpe_sl {a lo hi : E} {Q : W × Store → Prop} (h : Wp (evE Γ a s M) fun r => Wp (partOf lo.isNo (evE Γ lo s r.2) r.2) fun l => Wp (partOf hi.isNo (evE Γ hi s l.2) l.2) fun u => ∃ w, slSem r.1 l.1 u.1 = some w ∧ Q (w, u.2)) : Wp (evE Γ (.sl a lo hi) s M) Q := by simp only [evE, wp_bind, wp_of, wp_ok]; exact h
theorem wpl_sl {a lo hi : E} {Q : List W × Store → Prop} (h : Wp (evE Γ a s M) fun r => Wp (partOf lo.isNo (evE Γ lo s r.2) r.2) fun l => Wp (partOf hi.isNo (evE Γ hi s l.2) l.2) fun u => ∃ w, listOf u.2 r.1 = some w ∧ Q (cut w l.1 u.1, u.2)) : Wp (evL Γ (.sl a lo hi) s M) Q := by simp only [evL, wp_bind, wp_of, wp_ok]; exact h
theorem wpp_no {M : Store} {r : R (W × Store)} {no : Bool} {Q : Option Int × Store → Prop} (e : no = true) (h : Q (none, M)) : Wp (partOf no r M) Q := by subst e; exact h
theorem wpp_some {M : Store} {r : R (W × Store)} {no : Bool} {Q : Option Int × Store → Prop} (e : no = false) (h : Wp r fun p => ∃ i, p.1 = .d (.int i) ∧ Q (some i, p.2)) : Wp (partOf no r M) Q := by
  subst e
  unfold partOf
  rw [if_neg (by decide), wp_bind]
  refine h.mono fun p hp => ?_
  obtain ⟨w, M2⟩ := p
  obtain ⟨i, rfl, h⟩ := hp
  exact h
theorem wpa_nil {Q : List W × Store → Prop} (h : Q ([], M)) : Wp (evEs Γ .nil s M) Q := by simp only [evEs, wp_ok]; exact h
theorem wpa_cons {e : E} {es : Es} {Q : List W × Store → Prop} (h : Wp (evE Γ e s M) fun r => Wp (evEs Γ es s r.2) fun r2 => Q (r.1 :: r2.1, r2.2)) : Wp (evEs Γ (.cons e es) s M) Q := by simp only [evEs, wp_bind, wp_ok]; exact h
theorem wpl_disp {es : Es} {Q : List W × Store → Prop} (h : Wp (evEs Γ es s M) Q) : Wp (evL Γ (.disp es) s M) Q := by simp only [evL]; exact h
theorem wpl_comp {elt c : E} {tg : Tg} {it : I} {items : List Itm} {gs : List Nat} {Q : List W × Store → Prop} (h1 : evI Γ it s M = .ok (items, gs, M1)) (h : Wp (compLoop (fun x => tg.put x (wipe s tg.slots)) (fun s M => if c.isNo then .ok (true, M) else (evE Γ c s M).bind fun (x, M) => (R.of (tru M x)).bind fun b => .ok (b, M)) (fun s M => evE Γ elt s M) gs items M1 []) Q) : Wp (evL Γ (.comp elt tg it c) s M) Q := by
  simp only [evL, h1, R.bind_ok]
  obtain ⟨a, e, h⟩ := h.get
  rw [e]; exact h
/-- a comprehension without a test, over data -/
theorem wpc_cons {bt : Itm → Option Env} {c : Env → Store → R (Bool × Store)} {e : Env → Store → R (W × Store)} {x : Itm} {xs : List Itm} {acc : List W} {Q : List W × Store → Prop} (h1 : bt x = some s1)
    (h : Wp (c s1 M) fun r => if r.1 then Wp (e s1 r.2) fun r2 => acc.length < line ∧ Wp (compLoop bt c e [] xs r2.2 (acc ++ [r2.1])) Q else Wp (compLoop bt c e [] xs r.2 acc) Q) : Wp (compLoop bt c e [] (x :: xs) M acc) Q := by
  simp only [compLoop, h1, R.of_some, R.bind_ok, wp_bind, guard_nil, Bool.true_and, if_true]
  refine h.mono fun r hr => ?_
  obtain ⟨b, M2⟩ := r
  cases b with
  | false => exact hr
  | true =>
    simp only [if_true, wp_bind] at hr ⊢
    refine hr.mono fun r2 h2 => ?_
    rw [if_pos (decide_eq_true h2.1)]
    exact h2.2
theorem wpc_nil {bt : Itm → Option Env} {c : Env → Store → R (Bool × Store)} {e : Env → Store → R (W × Store)} {gs : List Nat} {acc : List W} {Q : List W × Store → Prop} (h : Q (acc, M)) : Wp (compLoop bt c e gs [] M acc) Q := by simp only [compLoop, wp_ok]; exact h
theorem wpe_loc {i : Nat} {Q : W × Store → Prop} (h : ∃ w, s[i]? = some (some w) ∧ Q (w, M)) : Wp (evE Γ (.loc i) s M) Q := by
  obtain ⟨w, e, h⟩ := h
  simp only [evE, e, wp_ok]; exact h
theorem wpe_lit {d : D} {Q : W × Store → Prop} (h : Q (.d d, M)) : Wp (evE Γ (.lit d) s M) Q := by simp only [evE, wp_ok]; exact h
theorem wps_ifW {c : E} {a b : Ss} (h : Wp (evE Γ c s M) fun r => ∃ t, tru r.2 r.1 = some t ∧ (if t then Wp (evSs Γ a s r.2) (fun r => match r.1 with | .nx => Wp (evSs Γ ss r.2.1 r.2.2) Q | _ => Q r) else Wp (evSs Γ b s r.2) fun r => match r.1 with | .nx => Wp (evSs Γ ss r.2.1 r.2.2) Q | _ => Q r)) : Wp (evSs Γ (.cons (.ifs c a b) ss) s M) Q := by
  obtain ⟨⟨x, M1⟩, e, t, ht, h⟩ := h.get
  refine wps_if e ht ?_
  cases t <;> exact h
theorem wpt_if {t : Bool} {p q : Prop} {u : Bool} (e : t = u) (h : if u then p else q) : if t then p else q := by rw [e]; exact h
theorem wpt_t {p q : Prop} (h : p) : if true = true then p else q := h
theorem wpt_f {p q : Prop} (h : q) : if false = true then p else q := h
theorem wpe_frzR {l : L} {w : W} {Q : W × Store → Prop} (h1 : evE Γ (.frz l) s M = .ok (w, M1)) (h : Q (w, M1)) : Wp (evE Γ (.frz l) s M) Q := by rw [h1]; exact h
theorem wpe_and2 {a b : E} {Q : W × Store → Prop} (h : Wp (evE Γ a s M) fun r => ∃ t, tru r.2 r.1 = some t ∧ (if t then Wp (evE Γ b s r.2) Q else Q r)) : Wp (evE Γ (.and (.cons a (.cons b .nil))) s M) Q := by
  simp only [evE, evAnd, wp_bind, wp_of, wp_if, wp_ok]; exact h
theorem wps_forW {tg : Tg} {it : I} {b : Ss} (h : Wp (evI Γ it s M) fun p => Wp (forLoop tg.put (fun s M => evSs Γ b s M) p.2.1 s p.1 s p.2.2) fun r => match r.1 with | .nx => Wp (evSs Γ ss r.2.1 r.2.2) Q | _ => Q r) : Wp (evSs Γ (.cons (.for_ tg it b) ss) s M) Q := by
  obtain ⟨⟨items, gs, M1⟩, e, h⟩ := h.get
  exact wps_for e h
theorem wpi_rng {es : Es} {Q : List Itm × List Nat × Store → Prop} (h : Wp (evEs Γ es s M) fun r => ∃ items, rngSem r.1 = some items ∧ Q (items, [], r.2)) : Wp (evI Γ (.rng es) s M) Q := by simp only [evI, wp_bind, wp_of, wp_ok]; exact h
theorem wpi_of {e : E} {Q : List Itm × List Nat × Store → Prop} (h : Wp (evE Γ e s M) fun r => ∃ items, iterSem r.2 r.1 = some items ∧ Q (items, guardOf r.1, r.2)) : Wp (evI Γ (.of e) s M) Q := by simp only [evI, wp_bind, wp_of, wp_ok]; exact h
theorem obeq_refl (c : Option Cell) (h : ∀ a b, c ≠ some (.ins a b)) : obeq c c = true := by
  cases c with
  | none => rfl
  | some c =>
    show Cell.beq c c = true
    cases c with
    | lst ws => exact W.beqs_refl ws
    | dct ks ws => simp [Cell.beq, W.beqs_refl ws]
    | ins a b => exact absurd rfl (h a b)
    | dead => rfl
theorem guard_refl {gs : List Nat} {M : Store} (hM : Pu M) : guard gs M M = true := by
  unfold guard
  refine List.all_eq_true.mpr fun n _ => obeq_refl _ fun a b e => ?_
  have := List.all_eq_true.mp hM _ (List.mem_of_getElem? e)
  cases this
theorem wpl_compW {elt c : E} {tg : Tg} {it : I} {Q : List W × Store → Prop} (h : Wp (evI Γ it s M) fun p => Wp (compLoop (fun x => tg.put x (wipe s tg.slots)) (fun s M => if c.isNo then .ok (true, M) else (evE Γ c s M).bind fun (x, M) => (R.of (tru M x)).bind fun b => .ok (b, M)) (fun s M => evE Γ elt s M) p.2.1 p.1 p.2.2 []) Q) : Wp (evL Γ (.comp elt tg it c) s M) Q := by
  obtain ⟨⟨items, gs, M1⟩, e, h⟩ := h.get
  exact wpl_comp e h
/-- a turn of a comprehension that changes nothing -/
theorem wpc_same {bt : Itm → Option Env} {c : Env → Store → R (Bool × Store)} {e : Env → Store → R (W × Store)} {gs : List Nat} {x : Itm} {xs : List Itm} {acc : List W} {t : Bool} {w : W} {Q : List W × Store → Prop} (hM : Pu M) (h1 : bt x = some s1) (h2 : c s1 M = .ok (t, M)) (h3 : t = true → e s1 M = .ok (w, M)) (hl : acc.length < line)
    (h : Wp (compLoop bt c e gs xs M (if t then acc ++ [w] else acc)) Q) : Wp (compLoop bt c e gs (x :: xs) M acc) Q := by
  cases t with
  | true =>
    simp only [compLoop, h1, h2, h3 rfl, R.of_some, R.bind_ok, if_true, guard_refl hM, Bool.true_and, decide_eq_true hl]
    exact h
  | false =>
    simp only [compLoop, h1, h2, R.of_some, R.bind_ok, Bool.false_eq_true, if_false, guard_refl hM, if_true]
    exact h
theorem eve_and2 {a b : E} {x : W} {r : R (W × Store)} (h1 : evE Γ a s M = .ok (x, M1)) (ht : tru M1 x = some true) (h2 : evE Γ b s M1 = r) : evE Γ (.and (.cons a (.cons b .nil))) s M = r := by simp only [evE, evAnd, h1, ht, R.bind_ok, R.of_some, if_true, h2]
theorem ix_in {M : Store} {ds : List D} {i : Nat} {d : D} (h : ds[i]? = some d) : idxSem M (.d (.tup ds)) (.d (.int (i : Int))) = some (.d d) := by
  have hi := (List.getElem?_eq_some_iff.mp h).1
  simp only [idxSem, atI, ixN]
  rw [if_pos (by omega), if_pos (by omega), Option.bind_some, Int.toNat_natCast, h]
  rfl
theorem wpe_inv {a : E} {Q : W × Store → Prop} (h : Wp (evE Γ a s M) fun r => ∃ b, tru r.2 r.1 = some b ∧ Q (.d (.bl (!b)), r.2)) : Wp (evE Γ (.inv a) s M) Q := by simp only [evE, wp_bind, wp_of, wp_ok]; exact h
theorem wpe_or1 {a : E} {Q : W × Store → Prop} (h : Wp (evE Γ a s M) Q) : Wp (evE Γ (.or (.cons a .nil)) s M) Q := by simp only [evE, evOr]; exact h
theorem wpe_and1 {a : E} {Q : W × Store → Prop} (h : Wp (evE Γ a s M) Q) : Wp (evE Γ (.and (.cons a .nil)) s M) Q := by simp only [evE, evAnd]; exact h
theorem wpe_orC {a b : E} {es : Es} {Q : W × Store → Prop} (h : Wp (evE Γ a s M) fun r => ∃ t, tru r.2 r.1 = some t ∧ (if t then Q r else Wp (evE Γ (.or (.cons b es)) s r.2) Q)) : Wp (evE Γ (.or (.cons a (.cons b es))) s M) Q := by
  have e : evE Γ (.or (.cons a (.cons b es))) s M = (evE Γ a s M).bind fun (x, M) => (R.of (tru M x)).bind fun t => if t then .ok (x, M) else evE Γ (.or (.cons b es)) s M := by simp only [evE, evOr]
  rw [e]
  simp only [wp_bind, wp_of, wp_if, wp_ok]
  exact h
theorem wpe_andC {a b : E} {es : Es} {Q : W × Store → Prop} (h : Wp (evE Γ a s M) fun r => ∃ t, tru r.2 r.1 = some t ∧ (if t then Wp (evE Γ (.and (.cons b es)) s r.2) Q else Q r)) : Wp (evE Γ (.and (.cons a (.cons b es))) s M) Q := by
  have e : evE Γ (.and (.cons a (.cons b es))) s M = (evE Γ a s M).bind fun (x, M) => (R.of (tru M x)).bind fun t => if t then evE Γ (.and (.cons b es)) s M else .ok (x, M) := by simp only [evE, evAnd]
  rw [e]
  simp only [wp_bind, wp_of, wp_if, wp_ok]
  exact h
end
/-- a comprehension of answers, the store as it was -/
theorem comp_bl {bt : Itm → Option Env} {c : Env → Store → R (Bool × Store)} {e : Env → Store → R (W × Store)} {gs : List Nat} {M : Store} (hM : Pu M) (g : Itm → Bool) (hc : ∀ s, c s M = .ok (true, M)) :
    ∀ (items : List Itm) (acc : List W) {Q : List W × Store → Prop}, acc.length + items.length ≤ 10000 → (∀ it ∈ items, ∃ s, bt it = some s ∧ e s M = .ok (.d (.bl (g it)), M)) → Q (acc ++ items.map (fun it => W.d (.bl (g it))), M) → Wp (compLoop bt c e gs items M acc) Q
  | [], acc, Q, _, _, hq => wpc_nil (by simpa using hq)
  | it :: items, acc, Q, hn, h, hq => by
    simp only [List.length_cons] at hn
    obtain ⟨s, h1, h2⟩ := h it (List.mem_cons_self ..)
    refine wpc_same (t := true) (w := .d (.bl (g it))) hM h1 (hc s) (fun _ => h2) (by unfold line; omega) ?_
    show Wp (compLoop bt c e gs items M (acc ++ [W.d (.bl (g it))])) Q
    exact comp_bl hM g hc items _ (by simp only [List.length_append, List.length_cons, List.length_nil]; omega) (fun x hx => h x (List.mem_cons_of_mem _ hx)) (by simpa using hq)
theorem bools_map (bs : List Bool) : boolsOf (bs.map fun b => W.d (.bl b)) = some bs := by
  induction bs with
  | nil => rfl
  | cons b bs ih => simp only [List.map_cons, boolsOf, ih, Option.map_some]
theorem toDs_bl (bs : List Bool) : toDs (bs.map fun b => W.d (.bl b)) = some (bs.map D.bl) := by
  induction bs with
  | nil => rfl
  | cons b bs ih => simp only [List.map_cons, toDs, ih, Option.map_some]
theorem all_bl (M : Store) (bs : List Bool) : biSem M .all [.d (.lst (bs.map D.bl))] = some (.d (.bl (bs.all id))) := by
  have e : listOf M (.d (.lst (bs.map D.bl))) = some (bs.map fun b => W.d (.bl b)) := by
    show some ((bs.map D.bl).map W.d) = _
    rw [List.map_map]; rfl
  simp only [biSem, e, Option.bind_some, bools_map, Option.map_some]
theorem any_bl (M : Store) (bs : List Bool) : biSem M .any [.d (.lst (bs.map D.bl))] = some (.d (.bl (bs.any id))) := by
  have e : listOf M (.d (.lst (bs.map D.bl))) = some (bs.map fun b => W.d (.bl b)) := by
    show some ((bs.map D.bl).map W.d) = _
    rw [List.map_map]; rfl
  simp only [biSem, e, Option.bind_some, bools_map, Option.map_some]
/-- a comprehension of data, the store as it was -/
theorem comp_dt {bt : Itm → Option Env} {c : Env → Store → R (Bool × Store)} {e : Env → Store → R (W × Store)} {gs : List Nat} {M : Store} (hM : Pu M) (g : Itm → D) :
    ∀ (items : List Itm) (acc : List W) {Q : List W × Store → Prop}, acc.length + items.length ≤ 10000 → (∀ it ∈ items, ∃ s, bt it = some s ∧ c s M = .ok (true, M) ∧ e s M = .ok (.d (g it), M)) → Q (acc ++ items.map (fun it => W.d (g it)), M) → Wp (compLoop bt c e gs items M acc) Q
  | [], acc, Q, _, _, hq => wpc_nil (by simpa using hq)
  | it :: items, acc, Q, hn, h, hq => by
    simp only [List.length_cons] at hn
    obtain ⟨s, h1, h3, h2⟩ := h it (List.mem_cons_self ..)
    refine wpc_same (t := true) (w := .d (g it)) hM h1 h3 (fun _ => h2) (by unfold line; omega) ?_
    show Wp (compLoop bt c e gs items M (acc ++ [W.d (g it)])) Q
    exact comp_dt hM g items _ (by simp only [List.length_append, List.length_cons, List.length_nil]; omega) (fun x hx => h x (List.mem_cons_of_mem _ hx)) (by simpa using hq)
theorem keysTx_s : ∀ ns : List Tx, keysTx (ns.map Ky.s) = some ns
  | [] => rfl
  | x :: ns => by simp only [List.map_cons, keysTx, keysTx_s ns, Option.map_some]
/-- a comprehension with a test, over data -/
theorem comp_flt {bt : Itm → Option Env} {c : Env → Store → R (Bool × Store)} {e : Env → Store → R (W × Store)} {gs : List Nat} {M : Store} (hM : Pu M) (p : D → Bool) (g : D → D) :
    ∀ (ds acc : List D) {Q : List W × Store → Prop}, acc.length + ds.length ≤ 10000 → (∀ d ∈ ds, ∃ s, bt (.one (.d d)) = some s ∧ c s M = .ok (p d, M) ∧ (p d = true → e s M = .ok (.d (g d), M))) → Q ((acc ++ (ds.filter p).map g).map W.d, M) → Wp (compLoop bt c e gs ((ds.map W.d).map Itm.one) M (acc.map W.d)) Q
  | [], acc, Q, _, _, hq => wpc_nil (by simpa using hq)
  | d :: ds, acc, Q, hn, h, hq => by
    simp only [List.length_cons] at hn
    obtain ⟨s, h1, h2, h3⟩ := h d (List.mem_cons_self ..)
    refine wpc_same (t := p d) (w := .d (g d)) hM h1 h2 h3 (by rw [List.length_map]; unfold line; omega) ?_
    cases hp : p d with
    | true =>
      have e1 : acc.map W.d ++ [W.d (g d)] = (acc ++ [g d]).map W.d := by simp
      show Wp (compLoop bt c e gs ((ds.map W.d).map Itm.one) M (acc.map W.d ++ [W.d (g d)])) Q
      rw [e1]
      refine comp_flt hM p g ds _ (by simp only [List.length_append, List.length_cons, List.length_nil]; omega) (fun x hx => h x (List.mem_cons_of_mem _ hx)) ?_
      rw [List.filter_cons_of_pos hp] at hq
      simpa using hq
    | false =>
      refine comp_flt hM p g ds _ (by omega) (fun x hx => h x (List.mem_cons_of_mem _ hx)) ?_
      rw [List.filter_cons_of_neg (by simp [hp])] at hq
      exact hq
section
variable {Γ : Ctx} {s : Env} {M M1 : Store}
theorem wpd_nil {bt : Itm → Option Env} {ek ev : Env → Store → R (W × Store)} {gs : List Nat} {ks : List Ky} {vs : List W} {Q : (List Ky × List W) × Store → Prop} (h : Q ((ks, vs), M)) : Wp (dcLoop bt ek ev gs [] M ks vs) Q := by simp only [dcLoop, wp_ok]; exact h
theorem wpd_cons {bt : Itm → Option Env} {ek ev : Env → Store → R (W × Store)} {x : Itm} {xs : List Itm} {ks : List Ky} {vs : List W} {s1 : Env} {d : D} {w : W} {k : Ky} {Q : (List Ky × List W) × Store → Prop} (h1 : bt x = some s1) (h2 : ek s1 M = .ok (.d d, M)) (h3 : ev s1 M = .ok (w, M)) (hk : kyOf d = some k) (hl : ks.length < line)
    (h : Wp (dcLoop bt ek ev [] xs M (dputK k w ks vs).1 (dputK k w ks vs).2) Q) : Wp (dcLoop bt ek ev [] (x :: xs) M ks vs) Q := by
  simp only [dcLoop, h1, h2, h3, hk, R.of_some, R.bind_ok, guard_nil, Bool.true_and, decide_eq_true hl, if_true]
  exact h
theorem wpe_dfrz {ek ev : E} {tg : Tg} {it : I} {items : List Itm} {gs : List Nat} {Q : W × Store → Prop} (h1 : evI Γ it s M = .ok (items, gs, M1)) (h : Wp (dcLoop (fun x => tg.put x (wipe s tg.slots)) (fun s M => evE Γ ek s M) (fun s M => evE Γ ev s M) gs items M1 [] []) fun r => ∃ ds, toDs r.1.2 = some ds ∧ Q (.d (.dct r.1.1 ds), r.2)) : Wp (evE Γ (.dfrz (.comp ek ev tg it)) s M) Q := by
  obtain ⟨⟨⟨ks, vs⟩, M2⟩, e, ds, hd, hq⟩ := h.get
  have e2 : evDc Γ (.comp ek ev tg it) s M = .ok ((ks, vs), M2) := by
    simp only [evDc, h1, R.bind_ok, e]
    rfl
  simp only [evE, e2, R.bind_ok, hd, R.of_some, wp_ok]
  exact hq
/-- a while whose test holds once -/
theorem wps_whl1 {c : E} {b ss : Ss} {n : Nat} {Q : TN.Flow × Env × Store → Prop} (hw : Γ.wf = n + 2) (h1 : evE Γ c s M = .ok (.d (.bl true), M)) (h : Wp (evSs Γ b s M) fun r => r.1 = .nx ∧ evE Γ c (mask s r.2.1) r.2.2 = .ok (.d (.bl false), r.2.2) ∧ Wp (evSs Γ ss (mask s r.2.1) r.2.2) Q) : Wp (evSs Γ (.cons (.whl c b) ss) s M) Q := by
  obtain ⟨⟨fl, s2, M2⟩, e, hf, h2, h3⟩ := h.get
  simp only at hf
  subst hf
  simp only at h2 h3
  simp only [evSs, evS, hw, whlLoop, evTest, h1, R.bind_ok, tru, R.of_some, R.from_ok, if_true, e, h2, Bool.false_eq_true, if_false]
  exact h3
end
end TN

namespace TN
abbrev fstatements_in : Nat := 0
abbrev fproc_named : Nat := 1
abbrev fassigned_in : Nat := 2
abbrev fpassed_on : Nat := 3
abbrev fmoving_table : Nat := 4
abbrev fvariable_of : Nat := 5
abbrev fmoving_items : Nat := 6
abbrev fmoving_of : Nat := 7
abbrev finputs_of_proc : Nat := 8
abbrev fstates_of_proc : Nat := 9
abbrev foutcomes_of_proc : Nat := 10
abbrev finputs_of : Nat := 11
abbrev fstates_of : Nat := 12
abbrev foutcomes_of : Nat := 13
abbrev fchanged_in : Nat := 14
abbrev fpassed_to : Nat := 15
abbrev ftouched_table : Nat := 16
abbrev ftouched_of : Nat := 17
abbrev f_law_start : Nat := 18
abbrev f_law_draw : Nat := 19
abbrev f_law_one_of : Nat := 20
abbrev f_law_shuffled : Nat := 21
abbrev f_law_words : Nat := 22
abbrev f_law_is_int : Nat := 23
abbrev f_law_same : Nat := 24
abbrev f_law_key : Nat := 25
abbrev f_law_statements : Nat := 26
abbrev f_law_moves : Nat := 27
abbrev f_law_states : Nat := 28
abbrev f_law_outcomes : Nat := 29
abbrev f_law_proc : Nat := 30
abbrev f_law_wild_head : Nat := 31
abbrev f_law_wild_value : Nat := 32
abbrev f_law_wild_call : Nat := 33
abbrev f_law_wild_test : Nat := 34
abbrev f_law_wild_statement : Nat := 35
abbrev f_law_wild_block : Nat := 36
abbrev f_law_wild_core : Nat := 37
abbrev f_law_touches : Nat := 38
abbrev flaw : Nat := 39
abbrev cCHANGING : Nat := 0
def vCHANGING : D := (.dct [(.s [115, 116, 111, 114, 101]), (.s [112, 117, 115, 104]), (.s [112, 111, 112])] [(.int 1), (.int 2), (.int 2)])
def bstatements_in : Ss := (.cons (.asg (.nm 1) (.cel (.disp .nil))) (.cons (.for_ (.nm 2) (.of (.loc 0)) (.cons (.expr (.mth .append (.loc 1) (.cons (.loc 2) .nil))) (.cons (.ifs (.cmp .isIn (.idx (.loc 2) (.lit (.int 0))) (.tup (.cons (.lit (.str [105, 102])) (.cons (.lit (.str [119, 104, 105, 108, 101])) .nil)))) (.cons (.for_ (.nm 3) (.of (.sl (.loc 2) (.lit (.int 2)) .no)) (.cons (.expr (.mth .extend (.loc 1) (.cons (.call fstatements_in (.cons (.loc 3) .nil)) .nil))) .nil)) .nil) .nil) .nil))) (.cons (.ret (.loc 1)) .nil)))
def dstatements_in : FD := { name := [115, 116, 97, 116, 101, 109, 101, 110, 116, 115, 95, 105, 110], pars := 1, N := [[98, 111, 100, 121], [102, 111, 117, 110, 100], [115, 116, 97, 116, 101, 109, 101, 110, 116], [98, 108, 111, 99, 107]], body := bstatements_in }
def bproc_named : Ss := (.cons (.ret (.idx (.frz (.comp (.loc 2) (.nm 2) (.of (.loc 0)) (.cmp .eq (.idx (.loc 2) (.lit (.int 0))) (.loc 1)))) (.lit (.int 0)))) .nil)
def dproc_named : FD := { name := [112, 114, 111, 99, 95, 110, 97, 109, 101, 100], pars := 2, N := [[99, 111, 114, 101], [110, 97, 109, 101], [112, 114, 111, 99]], body := bproc_named }
def bassigned_in : Ss := (.cons (.asg (.nm 1) (.cel (.disp .nil))) (.cons (.for_ (.nm 2) (.of (.call fstatements_in (.cons (.idx (.loc 0) (.lit (.int 8))) .nil))) (.cons (.ifs (.cmp .eq (.idx (.loc 2) (.lit (.int 0))) (.lit (.str [115, 101, 116]))) (.cons (.expr (.mth .extend (.loc 1) (.cons (.frz (.comp (.loc 3) (.tu [3, 4]) (.of (.idx (.loc 2) (.lit (.int 1)))) .no)) .nil))) .nil) (.cons (.ifs (.cmp .eq (.idx (.loc 2) (.lit (.int 0))) (.lit (.str [112, 111, 112]))) (.cons (.expr (.mth .extend (.loc 1) (.cons (.frz (.disp (.cons (.idx (.loc 2) (.lit (.int 1))) (.cons (.bin .add (.lit (.str [35])) (.idx (.loc 2) (.lit (.int 2)))) .nil)))) .nil))) .nil) (.cons (.ifs (.cmp .eq (.idx (.loc 2) (.lit (.int 0))) (.lit (.str [112, 117, 115, 104]))) (.cons (.expr (.mth .append (.loc 1) (.cons (.bin .add (.lit (.str [35])) (.idx (.loc 2) (.lit (.int 2)))) .nil))) .nil) (.cons (.ifs (.cmp .eq (.idx (.loc 2) (.lit (.int 0))) (.lit (.str [99, 97, 108, 108]))) (.cons (.expr (.mth .extend (.loc 1) (.cons (.idx (.loc 2) (.lit (.int 3))) .nil))) .nil) .nil) .nil)) .nil)) .nil)) .nil)) (.cons (.ret (.loc 1)) .nil)))
def dassigned_in : FD := { name := [97, 115, 115, 105, 103, 110, 101, 100, 95, 105, 110], pars := 1, N := [[112, 114, 111, 99], [102, 111, 117, 110, 100], [115, 116, 97, 116, 101, 109, 101, 110, 116], [120], [101, 120, 112, 114, 101, 115, 115, 105, 111, 110]], body := bassigned_in, keep := true }
def bpassed_on : Ss := (.cons (.asg (.nm 3) (.cel (.disp .nil))) (.cons (.for_ (.nm 4) (.of (.call fstatements_in (.cons (.idx (.loc 2) (.lit (.int 8))) .nil))) (.cons (.ifs (.cmp .eq (.idx (.loc 4) (.lit (.int 0))) (.lit (.str [99, 97, 108, 108]))) (.cons (.asg (.nm 5) (.idx (.call fproc_named (.cons (.loc 0) (.cons (.idx (.loc 4) (.lit (.int 1))) .nil))) (.lit (.int 1)))) (.cons (.for_ (.tu [6, 7]) (.zip (.loc 5) (.idx (.loc 4) (.lit (.int 2)))) (.cons (.ifs (.and (.cons (.cmp .eq (.idx (.loc 6) (.lit (.int 0))) (.lit (.str [97, 114, 114, 97, 121]))) (.cons (.cmp .isIn (.bin .add (.lit (.str [35])) (.idx (.loc 6) (.lit (.int 1)))) (.idx (.loc 1) (.idx (.loc 4) (.lit (.int 1))))) .nil))) (.cons (.expr (.mth .append (.loc 3) (.cons (.bin .add (.lit (.str [35])) (.idx (.loc 7) (.lit (.int 1)))) .nil))) .nil) .nil) .nil)) .nil)) .nil) .nil)) (.cons (.ret (.loc 3)) .nil)))
def dpassed_on : FD := { name := [112, 97, 115, 115, 101, 100, 95, 111, 110], pars := 3, N := [[99, 111, 114, 101], [109, 111, 118, 105, 110, 103], [112, 114, 111, 99], [102, 111, 117, 110, 100], [115, 116, 97, 116, 101, 109, 101, 110, 116], [112, 97, 114, 97, 109, 101, 116, 101, 114, 115], [112, 97, 114, 97, 109, 101, 116, 101, 114], [97, 114, 103, 117, 109, 101, 110, 116]], body := bpassed_on }
def bmoving_table : Ss := (.cons (.asg (.nm 1) (.dcel (.comp (.idx (.loc 3) (.lit (.int 0))) (.call fassigned_in (.cons (.loc 3) .nil)) (.nm 3) (.of (.loc 0))))) (.cons (.asg (.nm 2) (.lit (.bl true))) (.cons (.whl (.loc 2) (.cons (.asg (.nm 2) (.lit (.bl false))) (.cons (.for_ (.nm 3) (.of (.loc 0)) (.cons (.for_ (.nm 4) (.of (.call fpassed_on (.cons (.loc 0) (.cons (.loc 1) (.cons (.loc 3) .nil))))) (.cons (.ifs (.cmp .notIn (.loc 4) (.idx (.loc 1) (.idx (.loc 3) (.lit (.int 0))))) (.cons (.expr (.mth .append (.idx (.loc 1) (.idx (.loc 3) (.lit (.int 0)))) (.cons (.loc 4) .nil))) (.cons (.asg (.nm 2) (.lit (.bl true))) .nil)) .nil) .nil)) .nil)) .nil))) (.cons (.ret (.loc 1)) .nil))))
def dmoving_table : FD := { name := [109, 111, 118, 105, 110, 103, 95, 116, 97, 98, 108, 101], pars := 1, N := [[99, 111, 114, 101], [109, 111, 118, 105, 110, 103], [103, 114, 111, 119, 105, 110, 103], [112, 114, 111, 99], [110, 97, 109, 101]], body := bmoving_table }
def bvariable_of : Ss := (.cons (.ifs (.cmp .eq (.idx (.loc 0) (.lit (.int 0))) (.lit (.str [97, 114, 114, 97, 121]))) (.cons (.ret (.bin .add (.lit (.str [35])) (.idx (.loc 0) (.lit (.int 1))))) .nil) .nil) (.cons (.ret (.idx (.loc 0) (.lit (.int 1)))) .nil))
def dvariable_of : FD := { name := [118, 97, 114, 105, 97, 98, 108, 101, 95, 111, 102], pars := 1, N := [[105, 116, 101, 109]], body := bvariable_of }
def bmoving_items : Ss := (.cons (.ret (.frz (.comp (.loc 2) (.nm 2) (.of (.idx (.loc 0) (.lit (.int 1)))) (.cmp .isIn (.call fvariable_of (.cons (.loc 2) .nil)) (.idx (.loc 1) (.idx (.loc 0) (.lit (.int 0)))))))) .nil)
def dmoving_items : FD := { name := [109, 111, 118, 105, 110, 103, 95, 105, 116, 101, 109, 115], pars := 2, N := [[112, 114, 111, 99], [109, 111, 118, 105, 110, 103], [105, 116, 101, 109]], body := bmoving_items }
def bmoving_of : Ss := (.cons (.ret (.bi .tuple (.cons (.frz (.comp (.idx (.loc 2) (.lit (.int 1))) (.nm 2) (.of (.call fmoving_items (.cons (.call fproc_named (.cons (.loc 0) (.cons (.loc 1) .nil))) (.cons (.call fmoving_table (.cons (.loc 0) .nil)) .nil)))) .no)) .nil))) .nil)
def dmoving_of : FD := { name := [109, 111, 118, 105, 110, 103, 95, 111, 102], pars := 2, N := [[99, 111, 114, 101], [110, 97, 109, 101], [105, 116, 101, 109]], body := bmoving_of }
def binputs_of_proc : Ss := (.cons (.ret (.bi .tuple (.cons (.frz (.comp (.bin .add (.lit (.str [64])) (.call fvariable_of (.cons (.loc 1) .nil))) (.nm 1) (.of (.idx (.loc 0) (.lit (.int 1)))) .no)) .nil))) .nil)
def dinputs_of_proc : FD := { name := [105, 110, 112, 117, 116, 115, 95, 111, 102, 95, 112, 114, 111, 99], pars := 1, N := [[112, 114, 111, 99], [105, 116, 101, 109]], body := binputs_of_proc }
def bstates_of_proc : Ss := (.cons (.ret (.bi .tuple (.cons (.frz (.comp (.call fvariable_of (.cons (.loc 2) .nil)) (.nm 2) (.of (.frz (.cat (.call fmoving_items (.cons (.loc 0) (.cons (.loc 1) .nil))) (.frz (.bi .list (.cons (.idx (.loc 0) (.lit (.int 3))) .nil)))))) .no)) .nil))) .nil)
def dstates_of_proc : FD := { name := [115, 116, 97, 116, 101, 115, 95, 111, 102, 95, 112, 114, 111, 99], pars := 2, N := [[112, 114, 111, 99], [109, 111, 118, 105, 110, 103], [105, 116, 101, 109]], body := bstates_of_proc }
def boutcomes_of_proc : Ss := (.cons (.asg (.nm 2) (.frz (.comp (.call fvariable_of (.cons (.loc 3) .nil)) (.nm 3) (.of (.call fmoving_items (.cons (.loc 0) (.cons (.loc 1) .nil)))) (.cmp .eq (.idx (.loc 3) (.lit (.int 0))) (.lit (.str [97, 114, 114, 97, 121])))))) (.cons (.ret (.bin .add (.idx (.loc 0) (.lit (.int 2))) (.bi .tuple (.cons (.loc 2) .nil)))) .nil))
def doutcomes_of_proc : FD := { name := [111, 117, 116, 99, 111, 109, 101, 115, 95, 111, 102, 95, 112, 114, 111, 99], pars := 2, N := [[112, 114, 111, 99], [109, 111, 118, 105, 110, 103], [97, 114, 114, 97, 121, 115], [105, 116, 101, 109]], body := boutcomes_of_proc }
def binputs_of : Ss := (.cons (.ret (.call finputs_of_proc (.cons (.call fproc_named (.cons (.loc 0) (.cons (.loc 1) .nil))) .nil))) .nil)
def dinputs_of : FD := { name := [105, 110, 112, 117, 116, 115, 95, 111, 102], pars := 2, N := [[99, 111, 114, 101], [110, 97, 109, 101]], body := binputs_of }
def bstates_of : Ss := (.cons (.ret (.call fstates_of_proc (.cons (.call fproc_named (.cons (.loc 0) (.cons (.loc 1) .nil))) (.cons (.call fmoving_table (.cons (.loc 0) .nil)) .nil)))) .nil)
def dstates_of : FD := { name := [115, 116, 97, 116, 101, 115, 95, 111, 102], pars := 2, N := [[99, 111, 114, 101], [110, 97, 109, 101]], body := bstates_of }
def boutcomes_of : Ss := (.cons (.ret (.call foutcomes_of_proc (.cons (.call fproc_named (.cons (.loc 0) (.cons (.loc 1) .nil))) (.cons (.call fmoving_table (.cons (.loc 0) .nil)) .nil)))) .nil)
def doutcomes_of : FD := { name := [111, 117, 116, 99, 111, 109, 101, 115, 95, 111, 102], pars := 2, N := [[99, 111, 114, 101], [110, 97, 109, 101]], body := boutcomes_of }
def bchanged_in : Ss := (.cons (.asg (.nm 1) (.cel (.disp .nil))) (.cons (.for_ (.nm 2) (.of (.call fstatements_in (.cons (.idx (.loc 0) (.lit (.int 8))) .nil))) (.cons (.ifs (.cin cCHANGING (.idx (.loc 2) (.lit (.int 0)))) (.cons (.expr (.mth .append (.loc 1) (.cons (.idx (.loc 2) (.cidx cCHANGING (.idx (.loc 2) (.lit (.int 0))))) .nil))) .nil) .nil) .nil)) (.cons (.ret (.loc 1)) .nil)))
def dchanged_in : FD := { name := [99, 104, 97, 110, 103, 101, 100, 95, 105, 110], pars := 1, N := [[112, 114, 111, 99], [102, 111, 117, 110, 100], [115, 116, 97, 116, 101, 109, 101, 110, 116]], body := bchanged_in, keep := true }
def bpassed_to : Ss := (.cons (.asg (.nm 3) (.cel (.disp .nil))) (.cons (.for_ (.nm 4) (.of (.call fstatements_in (.cons (.idx (.loc 2) (.lit (.int 8))) .nil))) (.cons (.ifs (.cmp .eq (.idx (.loc 4) (.lit (.int 0))) (.lit (.str [99, 97, 108, 108]))) (.cons (.for_ (.tu [5, 6]) (.zip (.idx (.call fproc_named (.cons (.loc 0) (.cons (.idx (.loc 4) (.lit (.int 1))) .nil))) (.lit (.int 1))) (.idx (.loc 4) (.lit (.int 2)))) (.cons (.ifs (.and (.cons (.cmp .eq (.idx (.loc 5) (.lit (.int 0))) (.lit (.str [97, 114, 114, 97, 121]))) (.cons (.cmp .isIn (.idx (.loc 5) (.lit (.int 1))) (.idx (.loc 1) (.idx (.loc 4) (.lit (.int 1))))) .nil))) (.cons (.expr (.mth .append (.loc 3) (.cons (.idx (.loc 6) (.lit (.int 1))) .nil))) .nil) .nil) .nil)) .nil) .nil) .nil)) (.cons (.ret (.loc 3)) .nil)))
def dpassed_to : FD := { name := [112, 97, 115, 115, 101, 100, 95, 116, 111], pars := 3, N := [[99, 111, 114, 101], [116, 97, 98, 108, 101], [112, 114, 111, 99], [102, 111, 117, 110, 100], [115, 116, 97, 116, 101, 109, 101, 110, 116], [112, 97, 114, 97, 109, 101, 116, 101, 114], [97, 114, 103, 117, 109, 101, 110, 116]], body := bpassed_to }
def btouched_table : Ss := (.cons (.asg (.nm 1) (.dcel (.comp (.idx (.loc 3) (.lit (.int 0))) (.call fchanged_in (.cons (.loc 3) .nil)) (.nm 3) (.of (.loc 0))))) (.cons (.asg (.nm 2) (.lit (.bl true))) (.cons (.whl (.loc 2) (.cons (.asg (.nm 2) (.lit (.bl false))) (.cons (.for_ (.nm 3) (.of (.loc 0)) (.cons (.for_ (.nm 4) (.of (.call fpassed_to (.cons (.loc 0) (.cons (.loc 1) (.cons (.loc 3) .nil))))) (.cons (.ifs (.cmp .notIn (.loc 4) (.idx (.loc 1) (.idx (.loc 3) (.lit (.int 0))))) (.cons (.expr (.mth .append (.idx (.loc 1) (.idx (.loc 3) (.lit (.int 0)))) (.cons (.loc 4) .nil))) (.cons (.asg (.nm 2) (.lit (.bl true))) .nil)) .nil) .nil)) .nil)) .nil))) (.cons (.ret (.loc 1)) .nil))))
def dtouched_table : FD := { name := [116, 111, 117, 99, 104, 101, 100, 95, 116, 97, 98, 108, 101], pars := 1, N := [[99, 111, 114, 101], [116, 97, 98, 108, 101], [103, 114, 111, 119, 105, 110, 103], [112, 114, 111, 99], [110, 97, 109, 101]], body := btouched_table }
def btouched_of : Ss := (.cons (.asg (.nm 2) (.call ftouched_table (.cons (.loc 0) .nil))) (.cons (.asg (.nm 3) (.idx (.call fproc_named (.cons (.loc 0) (.cons (.loc 1) .nil))) (.lit (.int 1)))) (.cons (.ret (.bi .tuple (.cons (.frz (.comp (.idx (.loc 4) (.lit (.int 1))) (.nm 4) (.of (.loc 3)) (.and (.cons (.cmp .eq (.idx (.loc 4) (.lit (.int 0))) (.lit (.str [97, 114, 114, 97, 121]))) (.cons (.cmp .isIn (.idx (.loc 4) (.lit (.int 1))) (.idx (.loc 2) (.loc 1))) .nil))))) .nil))) .nil)))
def dtouched_of : FD := { name := [116, 111, 117, 99, 104, 101, 100, 95, 111, 102], pars := 2, N := [[99, 111, 114, 101], [110, 97, 109, 101], [116, 97, 98, 108, 101], [112, 97, 114, 97, 109, 101, 116, 101, 114, 115], [105, 116, 101, 109]], body := btouched_of }
def b_law_start : Ss := (.cons (.ret (.cel (.disp (.cons (.frz (.bi .list (.cons (.loc 0) .nil))) (.cons (.lit (.int 0)) (.cons (.lit (.int 0)) (.cons (.lit (.int 0)) .nil))))))) .nil)
def d_law_start : FD := { name := [95, 108, 97, 119, 95, 115, 116, 97, 114, 116], pars := 1, N := [[115, 99, 114, 105, 112, 116]], body := b_law_start, keep := true }
def b_law_draw : Ss := (.cons (.set (.loc 0) (.lit (.int 3)) (.bin .add (.idx (.loc 0) (.lit (.int 3))) (.lit (.int 1)))) (.cons (.ifs (.cmp .gt (.idx (.loc 0) (.lit (.int 2))) (.lit (.int 0))) (.cons (.asg (.nm 4) (.bin .mod (.bi .int (.cons (.idx (.loc 0) (.lit (.int 2))) .nil)) (.loc 1))) (.cons (.set (.loc 0) (.lit (.int 2)) (.bin .fdiv (.idx (.loc 0) (.lit (.int 2))) (.loc 1))) (.cons (.ret (.loc 4)) .nil))) .nil) (.cons (.asg (.nm 2) (.lit (.int 0))) (.cons (.ifs (.cmp .gt (.bi .len (.cons (.idx (.loc 0) (.lit (.int 0))) .nil)) (.lit (.int 0))) (.cons (.asg (.nm 2) (.bi .abs (.cons (.idx (.idx (.loc 0) (.lit (.int 0))) (.bin .mod (.bi .int (.cons (.idx (.loc 0) (.lit (.int 1))) .nil)) (.bi .len (.cons (.idx (.loc 0) (.lit (.int 0))) .nil)))) .nil))) .nil) .nil) (.cons (.set (.loc 0) (.lit (.int 1)) (.bin .add (.idx (.loc 0) (.lit (.int 1))) (.lit (.int 1)))) (.cons (.ifs (.cmp .ge (.loc 2) (.bin .pow (.lit (.int 10)) (.lit (.int 18)))) (.cons (.set (.loc 0) (.lit (.int 2)) (.bin .fdiv (.loc 2) (.loc 1))) (.cons (.ret (.bin .mod (.bi .int (.cons (.loc 2) .nil)) (.loc 1))) .nil)) .nil) (.cons (.asg (.nm 3) (.bin .mod (.bi .int (.cons (.bin .add (.bin .mul (.bin .add (.loc 2) (.lit (.int 1))) (.lit (.int 48271))) (.bin .mul (.idx (.loc 0) (.lit (.int 3))) (.lit (.int 69621)))) .nil)) (.lit (.int 2147483647)))) (.cons (.asg (.nm 3) (.bin .mod (.bi .int (.cons (.bin .add (.bin .add (.bin .mul (.loc 3) (.lit (.int 16807))) (.bin .fdiv (.loc 2) (.lit (.int 97)))) (.idx (.loc 0) (.lit (.int 3)))) .nil)) (.lit (.int 2147483629)))) (.cons (.ret (.bin .mod (.bin .fdiv (.loc 3) (.lit (.int 11))) (.loc 1))) .nil)))))))))
def d_law_draw : FD := { name := [95, 108, 97, 119, 95, 100, 114, 97, 119], pars := 2, N := [[115, 116, 97, 116, 101], [109, 111, 115, 116], [99, 101, 108, 108], [109, 105, 120, 101, 100], [102, 111, 117, 110, 100]], body := b_law_draw }
def b_law_one_of : Ss := (.cons (.ret (.idx (.loc 1) (.call f_law_draw (.cons (.loc 0) (.cons (.bi .len (.cons (.loc 1) .nil)) .nil))))) .nil)
def d_law_one_of : FD := { name := [95, 108, 97, 119, 95, 111, 110, 101, 95, 111, 102], pars := 2, N := [[115, 116, 97, 116, 101], [105, 116, 101, 109, 115]], body := b_law_one_of }
def b_law_shuffled : Ss := (.cons (.asg (.nm 2) (.cel (.disp .nil))) (.cons (.for_ (.nm 3) (.of (.loc 1)) (.cons (.expr (.mth .insert (.loc 2) (.cons (.call f_law_draw (.cons (.loc 0) (.cons (.bin .add (.bi .len (.cons (.loc 2) .nil)) (.lit (.int 1))) .nil))) (.cons (.loc 3) .nil)))) .nil)) (.cons (.ret (.loc 2)) .nil)))
def d_law_shuffled : FD := { name := [95, 108, 97, 119, 95, 115, 104, 117, 102, 102, 108, 101, 100], pars := 2, N := [[115, 116, 97, 116, 101], [105, 116, 101, 109, 115], [102, 111, 117, 110, 100], [105, 116, 101, 109]], body := b_law_shuffled, keep := true }
def b_law_words : Ss := (.cons (.asg (.nm 2) (.lit (.str [97, 98, 99, 100, 101, 102, 103, 104, 105, 106, 107, 108, 109, 110, 111, 112, 113, 114, 115, 116, 117, 118, 119, 120, 121, 122]))) (.cons (.asg (.nm 3) (.call f_law_draw (.cons (.loc 0) (.cons (.lit (.int 26)) .nil)))) (.cons (.asg (.nm 4) (.bin .add (.lit (.int 1)) (.bin .mul (.lit (.int 2)) (.call f_law_draw (.cons (.loc 0) (.cons (.lit (.int 6)) .nil)))))) (.cons (.asg (.nm 5) (.sl (.lit (.str [113, 120, 122])) .no (.call f_law_draw (.cons (.loc 0) (.cons (.lit (.int 4)) .nil))))) (.cons (.ifs (.cmp .eq (.call f_law_draw (.cons (.loc 0) (.cons (.lit (.int 2)) .nil))) (.lit (.int 0))) (.cons (.ret (.frz (.comp (.bin .add (.loc 5) (.idx (.loc 2) (.bin .mod (.bi .int (.cons (.bin .add (.loc 3) (.bin .mul (.loc 6) (.loc 4))) .nil)) (.lit (.int 26))))) (.nm 6) (.rng (.cons (.loc 1) .nil)) .no))) .nil) .nil) (.cons (.ret (.frz (.comp (.bin .add (.idx (.loc 2) (.bin .mod (.bi .int (.cons (.bin .add (.loc 3) (.bin .mul (.loc 6) (.loc 4))) .nil)) (.lit (.int 26)))) (.loc 5)) (.nm 6) (.rng (.cons (.loc 1) .nil)) .no))) .nil))))))
def d_law_words : FD := { name := [95, 108, 97, 119, 95, 119, 111, 114, 100, 115], pars := 2, N := [[115, 116, 97, 116, 101], [109, 97, 110, 121], [108, 101, 116, 116, 101, 114, 115], [115, 116, 97, 114, 116], [115, 116, 101, 112], [115, 104, 97, 114, 101, 100], [107]], body := b_law_words }
def b_law_is_int : Ss := (.cons (.ret (.and (.cons (.isi (.loc 0) .int) (.cons (.inv (.isi (.loc 0) .bool)) .nil)))) .nil)
def d_law_is_int : FD := { name := [95, 108, 97, 119, 95, 105, 115, 95, 105, 110, 116], pars := 1, N := [[120]], body := b_law_is_int }
def b_law_same : Ss := (.cons (.ifs (.isi (.loc 1) .tuple) (.cons (.ifs (.or (.cons (.inv (.isi (.loc 0) .tuple)) (.cons (.cmp .ne (.bi .len (.cons (.loc 0) .nil)) (.bi .len (.cons (.loc 1) .nil))) .nil))) (.cons (.ret (.lit (.bl false))) .nil) .nil) (.cons (.ret (.bi .all (.cons (.frz (.comp (.call f_law_same (.cons (.idx (.loc 0) (.loc 2)) (.cons (.idx (.loc 1) (.loc 2)) .nil))) (.nm 2) (.rng (.cons (.bi .len (.cons (.loc 1) .nil)) .nil)) .no)) .nil))) .nil)) .nil) (.cons (.ifs (.isi (.loc 1) .str) (.cons (.ret (.and (.cons (.isi (.loc 0) .str) (.cons (.cmp .eq (.loc 0) (.loc 1)) .nil)))) .nil) .nil) (.cons (.ret (.and (.cons (.call f_law_is_int (.cons (.loc 0) .nil)) (.cons (.cmp .eq (.loc 0) (.loc 1)) .nil)))) .nil)))
def d_law_same : FD := { name := [95, 108, 97, 119, 95, 115, 97, 109, 101], pars := 2, N := [[120], [121], [107]], body := b_law_same }
def b_law_key : Ss := (.cons (.ifs (.cmp .eq (.idx (.loc 0) (.lit (.int 0))) (.lit (.str [97, 114, 114, 97, 121]))) (.cons (.ret (.bin .add (.lit (.str [35])) (.idx (.loc 0) (.lit (.int 1))))) .nil) .nil) (.cons (.ret (.idx (.loc 0) (.lit (.int 1)))) .nil))
def d_law_key : FD := { name := [95, 108, 97, 119, 95, 107, 101, 121], pars := 1, N := [[105, 116, 101, 109]], body := b_law_key }
def b_law_statements : Ss := (.cons (.asg (.nm 1) (.cel (.disp .nil))) (.cons (.for_ (.nm 2) (.of (.loc 0)) (.cons (.expr (.mth .append (.loc 1) (.cons (.loc 2) .nil))) (.cons (.ifs (.cmp .eq (.idx (.loc 2) (.lit (.int 0))) (.lit (.str [119, 104, 105, 108, 101]))) (.cons (.asg (.nm 1) (.cel (.cat (.loc 1) (.call f_law_statements (.cons (.idx (.loc 2) (.lit (.int 2))) .nil))))) .nil) (.cons (.ifs (.cmp .eq (.idx (.loc 2) (.lit (.int 0))) (.lit (.str [105, 102]))) (.cons (.asg (.nm 1) (.cel (.cat (.frz (.cat (.loc 1) (.call f_law_statements (.cons (.idx (.loc 2) (.lit (.int 2))) .nil)))) (.call f_law_statements (.cons (.idx (.loc 2) (.lit (.int 3))) .nil))))) .nil) .nil) .nil)) .nil))) (.cons (.ret (.loc 1)) .nil)))
def d_law_statements : FD := { name := [95, 108, 97, 119, 95, 115, 116, 97, 116, 101, 109, 101, 110, 116, 115], pars := 1, N := [[98, 111, 100, 121], [102, 111, 117, 110, 100], [115]], body := b_law_statements }
def b_law_moves : Ss := (.cons (.asg (.nm 1) (.dcel (.disp .nil .nil))) (.cons (.for_ (.nm 2) (.of (.loc 0)) (.cons (.asg (.nm 4) (.cel (.disp .nil))) (.cons (.for_ (.nm 5) (.of (.call f_law_statements (.cons (.idx (.loc 2) (.lit (.int 8))) .nil))) (.cons (.ifs (.cmp .eq (.idx (.loc 5) (.lit (.int 0))) (.lit (.str [115, 101, 116]))) (.cons (.asg (.nm 4) (.cel (.cat (.loc 4) (.frz (.comp (.loc 9) (.tu [9, 10]) (.of (.idx (.loc 5) (.lit (.int 1)))) .no))))) .nil) (.cons (.ifs (.cmp .eq (.idx (.loc 5) (.lit (.int 0))) (.lit (.str [112, 111, 112]))) (.cons (.asg (.nm 4) (.cel (.cat (.loc 4) (.frz (.disp (.cons (.idx (.loc 5) (.lit (.int 1))) (.cons (.bin .add (.lit (.str [35])) (.idx (.loc 5) (.lit (.int 2)))) .nil))))))) .nil) (.cons (.ifs (.cmp .eq (.idx (.loc 5) (.lit (.int 0))) (.lit (.str [112, 117, 115, 104]))) (.cons (.expr (.mth .append (.loc 4) (.cons (.bin .add (.lit (.str [35])) (.idx (.loc 5) (.lit (.int 2)))) .nil))) .nil) (.cons (.ifs (.cmp .eq (.idx (.loc 5) (.lit (.int 0))) (.lit (.str [99, 97, 108, 108]))) (.cons (.asg (.nm 4) (.cel (.cat (.loc 4) (.frz (.bi .list (.cons (.idx (.loc 5) (.lit (.int 3))) .nil)))))) .nil) .nil) .nil)) .nil)) .nil)) .nil)) (.cons (.set (.loc 1) (.idx (.loc 2) (.lit (.int 0))) (.loc 4)) .nil)))) (.cons (.for_ (.nm 3) (.rng (.cons (.lit (.int 20)) .nil)) (.cons (.for_ (.nm 2) (.of (.loc 0)) (.cons (.for_ (.nm 5) (.of (.call f_law_statements (.cons (.idx (.loc 2) (.lit (.int 8))) .nil))) (.cons (.ifs (.cmp .eq (.idx (.loc 5) (.lit (.int 0))) (.lit (.str [99, 97, 108, 108]))) (.cons (.asg (.nm 6) (.idx (.idx (.frz (.comp (.loc 11) (.nm 11) (.of (.loc 0)) (.cmp .eq (.idx (.loc 11) (.lit (.int 0))) (.idx (.loc 5) (.lit (.int 1)))))) (.lit (.int 0))) (.lit (.int 1)))) (.cons (.asg (.nm 7) (.frz (.comp (.idx (.idx (.loc 5) (.lit (.int 2))) (.loc 8)) (.nm 8) (.rng (.cons (.bi .len (.cons (.loc 6) .nil)) .nil)) (.cmp .isIn (.call f_law_key (.cons (.idx (.loc 6) (.loc 8)) .nil)) (.idx (.loc 1) (.idx (.loc 5) (.lit (.int 1)))))))) (.cons (.set (.loc 1) (.idx (.loc 2) (.lit (.int 0))) (.frz (.cat (.idx (.loc 1) (.idx (.loc 2) (.lit (.int 0)))) (.frz (.comp (.bin .add (.lit (.str [35])) (.idx (.loc 10) (.lit (.int 1)))) (.nm 10) (.of (.loc 7)) (.cmp .eq (.idx (.loc 10) (.lit (.int 0))) (.lit (.str [97, 114, 114, 97, 121])))))))) .nil))) .nil) .nil)) .nil)) .nil)) (.cons (.ret (.loc 1)) .nil))))
def d_law_moves : FD := { name := [95, 108, 97, 119, 95, 109, 111, 118, 101, 115], pars := 1, N := [[99, 111, 114, 101], [116, 97, 98, 108, 101], [112], [116, 117, 114, 110], [107, 101, 121, 115], [115], [112, 97, 114, 97, 109, 101, 116, 101, 114, 115], [112, 97, 115, 115, 101, 100], [107], [120], [101], [113]], body := b_law_moves }
def b_law_states : Ss := (.cons (.ret (.frz (.cat (.frz (.comp (.call f_law_key (.cons (.loc 2) .nil)) (.nm 2) (.of (.idx (.loc 0) (.lit (.int 1)))) (.cmp .isIn (.call f_law_key (.cons (.loc 2) .nil)) (.loc 1)))) (.frz (.comp (.call f_law_key (.cons (.loc 2) .nil)) (.nm 2) (.of (.idx (.loc 0) (.lit (.int 3)))) .no))))) .nil)
def d_law_states : FD := { name := [95, 108, 97, 119, 95, 115, 116, 97, 116, 101, 115], pars := 2, N := [[112], [109, 111, 118, 101, 100], [105, 116, 101, 109]], body := b_law_states }
def b_law_outcomes : Ss := (.cons (.ret (.frz (.cat (.frz (.bi .list (.cons (.idx (.loc 0) (.lit (.int 2))) .nil))) (.frz (.comp (.bin .add (.lit (.str [35])) (.loc 3)) (.tu [2, 3]) (.of (.idx (.loc 0) (.lit (.int 1)))) (.and (.cons (.cmp .eq (.loc 2) (.lit (.str [97, 114, 114, 97, 121]))) (.cons (.cmp .isIn (.bin .add (.lit (.str [35])) (.loc 3)) (.loc 1)) .nil)))))))) .nil)
def d_law_outcomes : FD := { name := [95, 108, 97, 119, 95, 111, 117, 116, 99, 111, 109, 101, 115], pars := 2, N := [[112], [109, 111, 118, 101, 100], [107, 105, 110, 100], [120]], body := b_law_outcomes }
def b_law_proc : Ss := (.cons (.ret (.idx (.frz (.comp (.loc 2) (.nm 2) (.of (.loc 0)) (.cmp .eq (.idx (.loc 2) (.lit (.int 0))) (.loc 1)))) (.lit (.int 0)))) .nil)
def d_law_proc : FD := { name := [95, 108, 97, 119, 95, 112, 114, 111, 99], pars := 2, N := [[99, 111, 114, 101], [110, 97, 109, 101], [112]], body := b_law_proc }
def b_law_wild_head : Ss := (.cons (.asg (.nm 2) (.call f_law_words (.cons (.loc 0) (.cons (.lit (.int 7)) .nil)))) (.cons (.asg (.nm 3) (.frz (.sl (.call f_law_shuffled (.cons (.loc 0) (.cons (.frz (.disp (.cons (.tup (.cons (.lit (.str [105, 110, 116])) (.cons (.idx (.loc 2) (.lit (.int 0))) .nil))) (.cons (.tup (.cons (.lit (.str [105, 110, 116])) (.cons (.idx (.loc 2) (.lit (.int 1))) .nil))) (.cons (.tup (.cons (.lit (.str [97, 114, 114, 97, 121])) (.cons (.idx (.loc 2) (.lit (.int 2))) .nil))) .nil))))) .nil))) (.call f_law_draw (.cons (.loc 0) (.cons (.lit (.int 3)) .nil))) .no))) (.cons (.asg (.nm 4) (.frz (.disp (.cons (.tup (.cons (.lit (.str [105, 110, 116])) (.cons (.idx (.loc 2) (.lit (.int 3))) .nil))) (.cons (.tup (.cons (.lit (.str [105, 110, 116])) (.cons (.bin .add (.bin .add (.idx (.loc 2) (.lit (.int 4))) (.lit (.str [46]))) (.idx (.loc 2) (.lit (.int 0)))) .nil))) (.cons (.tup (.cons (.lit (.str [97, 114, 114, 97, 121])) (.cons (.idx (.loc 2) (.lit (.int 5))) .nil))) (.cons (.tup (.cons (.lit (.str [97, 114, 114, 97, 121])) (.cons (.idx (.loc 2) (.lit (.int 6))) .nil))) .nil))))))) (.cons (.asg (.nm 4) (.call f_law_shuffled (.cons (.loc 0) (.cons (.loc 4) .nil)))) (.cons (.asg (.nm 5) (.dcel (.disp (.cons (.lit (.str [110, 97, 109, 101])) (.cons (.lit (.str [105, 116, 101, 109, 115])) (.cons (.lit (.str [112, 108, 97, 99, 101, 115])) (.cons (.lit (.str [114, 101, 115, 117, 108, 116, 115])) .nil)))) (.cons (.loc 1) (.cons (.loc 3) (.cons (.loc 4) (.cons (.sl (.tup (.cons (.lit (.str [114, 101, 115, 117, 108, 116])) .nil)) .no (.call f_law_draw (.cons (.loc 0) (.cons (.lit (.int 2)) .nil)))) .nil))))))) (.cons (.set (.loc 5) (.lit (.str [105, 110, 116, 115])) (.frz (.comp (.loc 7) (.tu [6, 7]) (.of (.frz (.cat (.loc 3) (.loc 4)))) (.cmp .eq (.loc 6) (.lit (.str [105, 110, 116])))))) (.cons (.set (.loc 5) (.lit (.str [97, 114, 114, 97, 121, 115])) (.frz (.comp (.loc 7) (.tu [6, 7]) (.of (.frz (.cat (.loc 3) (.loc 4)))) (.cmp .eq (.loc 6) (.lit (.str [97, 114, 114, 97, 121])))))) (.cons (.ret (.loc 5)) .nil))))))))
def d_law_wild_head : FD := { name := [95, 108, 97, 119, 95, 119, 105, 108, 100, 95, 104, 101, 97, 100], pars := 2, N := [[115, 116, 97, 116, 101], [110, 97, 109, 101], [119, 111, 114, 100, 115], [105, 116, 101, 109, 115], [112, 108, 97, 99, 101, 115], [104, 101, 97, 100], [107, 105, 110, 100], [120]], body := b_law_wild_head }
def b_law_wild_value : Ss := (.cons (.asg (.nm 4) (.tup (.cons (.lit (.str [110, 97, 109, 101])) (.cons (.call f_law_one_of (.cons (.loc 0) (.cons (.loc 1) .nil))) .nil)))) (.cons (.asg (.nm 5) (.call f_law_draw (.cons (.loc 0) (.cons (.lit (.int 11)) .nil)))) (.cons (.ifs (.or (.cons (.cmp .lt (.loc 5) (.lit (.int 4))) (.cons (.cmp .eq (.loc 3) (.lit (.int 0))) .nil))) (.cons (.ret (.loc 4)) .nil) .nil) (.cons (.ifs (.cmp .eq (.loc 5) (.lit (.int 4))) (.cons (.ret (.tup (.cons (.lit (.str [110, 117, 109, 98, 101, 114])) (.cons (.call f_law_draw (.cons (.loc 0) (.cons (.lit (.int 6)) .nil))) .nil)))) .nil) .nil) (.cons (.ifs (.cmp .eq (.loc 5) (.lit (.int 5))) (.cons (.ret (.tup (.cons (.lit (.str [108, 101, 110, 103, 116, 104])) (.cons (.call f_law_one_of (.cons (.loc 0) (.cons (.loc 2) .nil))) .nil)))) .nil) .nil) (.cons (.asg (.nm 6) (.call f_law_wild_value (.cons (.loc 0) (.cons (.loc 1) (.cons (.loc 2) (.cons (.bin .sub (.loc 3) (.lit (.int 1))) .nil)))))) (.cons (.ifs (.cmp .eq (.loc 5) (.lit (.int 6))) (.cons (.ret (.tup (.cons (.lit (.str [105, 116, 101, 109])) (.cons (.call f_law_one_of (.cons (.loc 0) (.cons (.loc 2) .nil))) (.cons (.loc 6) .nil))))) .nil) .nil) (.cons (.ifs (.cmp .eq (.loc 5) (.lit (.int 7))) (.cons (.ret (.tup (.cons (.idx (.frz (.disp (.cons (.lit (.str [113, 117, 111, 116, 105, 101, 110, 116])) (.cons (.lit (.str [114, 101, 109, 97, 105, 110, 100, 101, 114])) .nil)))) (.call f_law_draw (.cons (.loc 0) (.cons (.lit (.int 2)) .nil)))) (.cons (.loc 6) (.cons (.bin .add (.lit (.int 1)) (.call f_law_draw (.cons (.loc 0) (.cons (.lit (.int 4)) .nil)))) .nil))))) .nil) .nil) (.cons (.ifs (.cmp .eq (.loc 5) (.lit (.int 8))) (.cons (.ret (.tup (.cons (.lit (.str [115, 99, 97, 108, 101])) (.cons (.idx (.frz (.disp (.cons (.neg (.lit (.int 1))) (.cons (.lit (.int 2)) .nil)))) (.call f_law_draw (.cons (.loc 0) (.cons (.lit (.int 2)) .nil)))) (.cons (.loc 6) .nil))))) .nil) .nil) (.cons (.ret (.tup (.cons (.idx (.frz (.disp (.cons (.lit (.str [112, 108, 117, 115])) (.cons (.lit (.str [109, 105, 110, 117, 115])) .nil)))) (.call f_law_draw (.cons (.loc 0) (.cons (.lit (.int 2)) .nil)))) (.cons (.loc 6) (.cons (.tup (.cons (.lit (.str [110, 117, 109, 98, 101, 114])) (.cons (.bin .add (.lit (.int 1)) (.call f_law_draw (.cons (.loc 0) (.cons (.lit (.int 3)) .nil)))) .nil))) .nil))))) .nil))))))))))
def d_law_wild_value : FD := { name := [95, 108, 97, 119, 95, 119, 105, 108, 100, 95, 118, 97, 108, 117, 101], pars := 4, N := [[115, 116, 97, 116, 101], [105, 110, 116, 115], [97, 114, 114, 97, 121, 115], [100, 101, 112, 116, 104], [120], [112, 105, 99, 107], [105, 110, 110, 101, 114]], body := b_law_wild_value }
def b_law_wild_call : Ss := (.cons (.asg (.nm 3) (.call f_law_one_of (.cons (.loc 0) (.cons (.loc 1) .nil)))) (.cons (.asg (.nm 4) (.call f_law_shuffled (.cons (.loc 0) (.cons (.idx (.loc 2) (.lit (.str [97, 114, 114, 97, 121, 115]))) .nil)))) (.cons (.asg (.nm 5) (.cel (.disp .nil))) (.cons (.for_ (.tu [7, 8]) (.of (.idx (.loc 3) (.lit (.str [105, 116, 101, 109, 115])))) (.cons (.ifs (.cmp .eq (.loc 7) (.lit (.str [97, 114, 114, 97, 121]))) (.cons (.expr (.mth .append (.loc 5) (.cons (.tup (.cons (.lit (.str [97, 114, 114, 97, 121])) (.cons (.mth .pop (.loc 4) .nil) .nil))) .nil))) .nil) (.cons (.expr (.mth .append (.loc 5) (.cons (.call f_law_wild_value (.cons (.loc 0) (.cons (.idx (.loc 2) (.lit (.str [105, 110, 116, 115]))) (.cons (.idx (.loc 2) (.lit (.str [97, 114, 114, 97, 121, 115]))) (.cons (.lit (.int 1)) .nil))))) .nil))) .nil)) .nil)) (.cons (.asg (.nm 6) (.tup .nil)) (.cons (.ifs (.and (.cons (.cmp .ne (.idx (.loc 3) (.lit (.str [114, 101, 115, 117, 108, 116, 115]))) (.tup .nil)) (.cons (.cmp .gt (.call f_law_draw (.cons (.loc 0) (.cons (.lit (.int 3)) .nil))) (.lit (.int 0))) .nil))) (.cons (.asg (.nm 6) (.tup (.cons (.call f_law_one_of (.cons (.loc 0) (.cons (.idx (.loc 2) (.lit (.str [105, 110, 116, 115]))) .nil))) .nil))) .nil) .nil) (.cons (.ret (.tup (.cons (.lit (.str [99, 97, 108, 108])) (.cons (.idx (.loc 3) (.lit (.str [110, 97, 109, 101]))) (.cons (.bi .tuple (.cons (.loc 5) .nil)) (.cons (.loc 6) .nil)))))) .nil)))))))
def d_law_wild_call : FD := { name := [95, 108, 97, 119, 95, 119, 105, 108, 100, 95, 99, 97, 108, 108], pars := 3, N := [[115, 116, 97, 116, 101], [104, 101, 97, 100, 115], [104, 101, 97, 100], [99, 97, 108, 108, 101, 101], [112, 97, 115, 115, 101, 100], [103, 105, 118, 101, 110], [116, 97, 114, 103, 101, 116, 115], [107, 105, 110, 100], [120]], body := b_law_wild_call }
def b_law_wild_test : Ss := (.cons (.set (.loc 3) (.lit (.int 0)) (.bin .sub (.idx (.loc 3) (.lit (.int 0))) (.lit (.int 1)))) (.cons (.asg (.nm 4) (.call f_law_wild_value (.cons (.loc 0) (.cons (.loc 1) (.cons (.loc 2) (.cons (.lit (.int 1)) .nil)))))) (.cons (.asg (.nm 5) (.tup (.cons (.idx (.frz (.disp (.cons (.lit (.str [108, 101, 115, 115])) (.cons (.lit (.str [108, 101, 115, 115])) (.cons (.lit (.str [115, 97, 109, 101])) .nil))))) (.call f_law_draw (.cons (.loc 0) (.cons (.lit (.int 3)) .nil)))) (.cons (.loc 4) (.cons (.call f_law_wild_value (.cons (.loc 0) (.cons (.loc 1) (.cons (.loc 2) (.cons (.lit (.int 1)) .nil))))) .nil))))) (.cons (.asg (.nm 6) (.call f_law_draw (.cons (.loc 0) (.cons (.lit (.int 6)) .nil)))) (.cons (.ifs (.cmp .eq (.loc 6) (.lit (.int 0))) (.cons (.ret (.tup (.cons (.lit (.str [110, 111, 116])) (.cons (.loc 5) .nil)))) .nil) .nil) (.cons (.ifs (.and (.cons (.cmp .eq (.loc 6) (.lit (.int 1))) (.cons (.cmp .gt (.idx (.loc 3) (.lit (.int 0))) (.lit (.int 0))) .nil))) (.cons (.set (.loc 3) (.lit (.int 0)) (.bin .sub (.idx (.loc 3) (.lit (.int 0))) (.lit (.int 1)))) (.cons (.ret (.tup (.cons (.idx (.frz (.disp (.cons (.lit (.str [97, 110, 100])) (.cons (.lit (.str [111, 114])) .nil)))) (.call f_law_draw (.cons (.loc 0) (.cons (.lit (.int 2)) .nil)))) (.cons (.loc 5) (.cons (.tup (.cons (.lit (.str [108, 101, 115, 115])) (.cons (.loc 4) (.cons (.tup (.cons (.lit (.str [110, 117, 109, 98, 101, 114])) (.cons (.lit (.int 3)) .nil))) .nil)))) .nil))))) .nil)) .nil) (.cons (.ret (.loc 5)) .nil)))))))
def d_law_wild_test : FD := { name := [95, 108, 97, 119, 95, 119, 105, 108, 100, 95, 116, 101, 115, 116], pars := 4, N := [[115, 116, 97, 116, 101], [105, 110, 116, 115], [97, 114, 114, 97, 121, 115], [98, 117, 100, 103, 101, 116], [102, 105, 114, 115, 116], [99], [112, 105, 99, 107]], body := b_law_wild_test }
def b_law_wild_statement : Ss := (.cons (.asg (.nm 5) (.idx (.loc 2) (.lit (.str [105, 110, 116, 115])))) (.cons (.asg (.nm 6) (.idx (.loc 2) (.lit (.str [97, 114, 114, 97, 121, 115])))) (.cons (.asg (.nm 7) (.call f_law_draw (.cons (.loc 0) (.cons (.lit (.int 14)) .nil)))) (.cons (.asg (.nm 8) (.call f_law_one_of (.cons (.loc 0) (.cons (.loc 5) .nil)))) (.cons (.asg (.nm 9) (.call f_law_one_of (.cons (.loc 0) (.cons (.loc 6) .nil)))) (.cons (.ifs (.cmp .eq (.loc 7) (.lit (.int 0))) (.cons (.ret (.tup (.cons (.lit (.str [112, 117, 115, 104])) (.cons (.call f_law_wild_value (.cons (.loc 0) (.cons (.loc 5) (.cons (.loc 6) (.cons (.lit (.int 1)) .nil))))) (.cons (.loc 9) .nil))))) .nil) .nil) (.cons (.ifs (.cmp .eq (.loc 7) (.lit (.int 1))) (.cons (.ret (.tup (.cons (.lit (.str [115, 116, 111, 114, 101])) (.cons (.loc 9) (.cons (.call f_law_wild_value (.cons (.loc 0) (.cons (.loc 5) (.cons (.loc 6) (.cons (.lit (.int 1)) .nil))))) (.cons (.call f_law_wild_value (.cons (.loc 0) (.cons (.loc 5) (.cons (.loc 6) (.cons (.lit (.int 1)) .nil))))) .nil)))))) .nil) .nil) (.cons (.ifs (.and (.cons (.cmp .eq (.loc 7) (.lit (.int 2))) (.cons (.cmp .gt (.idx (.loc 4) (.lit (.int 0))) (.lit (.int 0))) .nil))) (.cons (.set (.loc 4) (.lit (.int 0)) (.bin .sub (.idx (.loc 4) (.lit (.int 0))) (.lit (.int 1)))) (.cons (.ret (.tup (.cons (.lit (.str [112, 111, 112])) (.cons (.loc 8) (.cons (.loc 9) .nil))))) .nil)) .nil) (.cons (.ifs (.cmp .eq (.loc 7) (.lit (.int 3))) (.cons (.ret (.tup (.cons (.lit (.str [112, 97, 117, 115, 101])) .nil))) .nil) .nil) (.cons (.ifs (.and (.cons (.cmp .lt (.loc 7) (.lit (.int 6))) (.cons (.cmp .gt (.loc 3) (.lit (.int 0))) .nil))) (.cons (.ret (.call f_law_wild_call (.cons (.loc 0) (.cons (.loc 1) (.cons (.loc 2) .nil))))) .nil) .nil) (.cons (.ifs (.and (.cons (.cmp .gt (.loc 7) (.lit (.int 9))) (.cons (.cmp .gt (.loc 3) (.lit (.int 0))) (.cons (.cmp .gt (.idx (.loc 4) (.lit (.int 0))) (.lit (.int 0))) .nil)))) (.cons (.asg (.nm 10) (.call f_law_wild_test (.cons (.loc 0) (.cons (.loc 5) (.cons (.loc 6) (.cons (.loc 4) .nil)))))) (.cons (.asg (.nm 11) (.call f_law_wild_block (.cons (.loc 0) (.cons (.loc 1) (.cons (.loc 2) (.cons (.bin .sub (.loc 3) (.lit (.int 1))) (.cons (.loc 4) .nil))))))) (.cons (.ifs (.cmp .eq (.loc 7) (.lit (.int 10))) (.cons (.asg (.nm 12) (.tup (.cons (.lit (.str [115, 101, 116])) (.cons (.tup (.cons (.tup (.cons (.loc 8) (.cons (.tup (.cons (.lit (.str [112, 108, 117, 115])) (.cons (.tup (.cons (.lit (.str [110, 97, 109, 101])) (.cons (.loc 8) .nil))) (.cons (.tup (.cons (.lit (.str [110, 117, 109, 98, 101, 114])) (.cons (.lit (.int 1)) .nil))) .nil)))) .nil))) .nil)) .nil)))) (.cons (.ret (.tup (.cons (.lit (.str [119, 104, 105, 108, 101])) (.cons (.tup (.cons (.lit (.str [108, 101, 115, 115])) (.cons (.tup (.cons (.lit (.str [110, 97, 109, 101])) (.cons (.loc 8) .nil))) (.cons (.tup (.cons (.lit (.str [110, 117, 109, 98, 101, 114])) (.cons (.call f_law_draw (.cons (.loc 0) (.cons (.lit (.int 5)) .nil))) .nil))) .nil)))) (.cons (.bin .add (.loc 11) (.tup (.cons (.loc 12) .nil))) .nil))))) .nil)) .nil) (.cons (.ifs (.cmp .eq (.loc 7) (.lit (.int 11))) (.cons (.ret (.tup (.cons (.lit (.str [119, 104, 105, 108, 101])) (.cons (.loc 10) (.cons (.loc 11) .nil))))) .nil) .nil) (.cons (.ret (.tup (.cons (.lit (.str [105, 102])) (.cons (.loc 10) (.cons (.loc 11) (.cons (.call f_law_wild_block (.cons (.loc 0) (.cons (.loc 1) (.cons (.loc 2) (.cons (.bin .sub (.loc 3) (.lit (.int 1))) (.cons (.loc 4) .nil)))))) .nil)))))) .nil))))) .nil) (.cons (.ret (.tup (.cons (.lit (.str [115, 101, 116])) (.cons (.tup (.cons (.tup (.cons (.loc 8) (.cons (.call f_law_wild_value (.cons (.loc 0) (.cons (.loc 5) (.cons (.loc 6) (.cons (.lit (.int 2)) .nil))))) .nil))) .nil)) .nil)))) .nil))))))))))))
def d_law_wild_statement : FD := { name := [95, 108, 97, 119, 95, 119, 105, 108, 100, 95, 115, 116, 97, 116, 101, 109, 101, 110, 116], pars := 5, N := [[115, 116, 97, 116, 101], [104, 101, 97, 100, 115], [104, 101, 97, 100], [100, 101, 112, 116, 104], [98, 117, 100, 103, 101, 116], [105, 110, 116, 115], [97, 114, 114, 97, 121, 115], [112, 105, 99, 107], [120], [97], [116, 101, 115, 116], [98, 108, 111, 99, 107], [99, 111, 117, 110, 116]], body := b_law_wild_statement }
def b_law_wild_block : Ss := (.cons (.asg (.nm 5) (.bin .add (.lit (.int 1)) (.call f_law_draw (.cons (.loc 0) (.cons (.lit (.int 2)) .nil))))) (.cons (.ret (.bi .tuple (.cons (.frz (.comp (.call f_law_wild_statement (.cons (.loc 0) (.cons (.loc 1) (.cons (.loc 2) (.cons (.loc 3) (.cons (.loc 4) .nil)))))) (.nm 6) (.rng (.cons (.loc 5) .nil)) .no)) .nil))) .nil))
def d_law_wild_block : FD := { name := [95, 108, 97, 119, 95, 119, 105, 108, 100, 95, 98, 108, 111, 99, 107], pars := 5, N := [[115, 116, 97, 116, 101], [104, 101, 97, 100, 115], [104, 101, 97, 100], [100, 101, 112, 116, 104], [98, 117, 100, 103, 101, 116], [109, 97, 110, 121], [107]], body := b_law_wild_block }
def b_law_wild_core : Ss := (.cons (.asg (.nm 1) (.frz (.comp (.call f_law_wild_head (.cons (.loc 0) (.cons (.loc 7) .nil))) (.nm 7) (.of (.frz (.bi .sorted (.cons (.call f_law_words (.cons (.loc 0) (.cons (.bin .add (.lit (.int 1)) (.call f_law_draw (.cons (.loc 0) (.cons (.lit (.int 2)) .nil)))) .nil))) .nil)))) .no))) (.cons (.asg (.nm 2) (.cel (.disp .nil))) (.cons (.for_ (.nm 3) (.of (.loc 1)) (.cons (.asg (.nm 4) (.cel (.disp (.cons (.lit (.int 4)) .nil)))) (.cons (.asg (.nm 5) (.bin .add (.call f_law_wild_block (.cons (.loc 0) (.cons (.loc 1) (.cons (.loc 3) (.cons (.lit (.int 2)) (.cons (.loc 4) .nil)))))) (.call f_law_wild_block (.cons (.loc 0) (.cons (.loc 1) (.cons (.loc 3) (.cons (.lit (.int 1)) (.cons (.loc 4) .nil)))))))) (.cons (.ifs (.cmp .ne (.idx (.loc 3) (.lit (.str [114, 101, 115, 117, 108, 116, 115]))) (.tup .nil)) (.cons (.asg (.nm 5) (.bin .add (.loc 5) (.tup (.cons (.tup (.cons (.lit (.str [103, 105, 118, 101])) (.cons (.tup (.cons (.call f_law_wild_value (.cons (.loc 0) (.cons (.idx (.loc 3) (.lit (.str [105, 110, 116, 115]))) (.cons (.idx (.loc 3) (.lit (.str [97, 114, 114, 97, 121, 115]))) (.cons (.lit (.int 1)) .nil))))) .nil)) .nil))) .nil)))) .nil) .nil) (.cons (.asg (.nm 6) (.bi .tuple (.cons (.idx (.loc 3) (.lit (.str [105, 116, 101, 109, 115]))) .nil))) (.cons (.expr (.mth .append (.loc 2) (.cons (.tup (.cons (.idx (.loc 3) (.lit (.str [110, 97, 109, 101]))) (.cons (.loc 6) (.cons (.idx (.loc 3) (.lit (.str [114, 101, 115, 117, 108, 116, 115]))) (.cons (.bi .tuple (.cons (.idx (.loc 3) (.lit (.str [112, 108, 97, 99, 101, 115]))) .nil)) (.cons (.tup .nil) (.cons (.tup .nil) (.cons (.tup .nil) (.cons (.tup .nil) (.cons (.loc 5) .nil)))))))))) .nil))) .nil)))))) (.cons (.ret (.bi .tuple (.cons (.loc 2) .nil))) .nil))))
def d_law_wild_core : FD := { name := [95, 108, 97, 119, 95, 119, 105, 108, 100, 95, 99, 111, 114, 101], pars := 1, N := [[115, 116, 97, 116, 101], [104, 101, 97, 100, 115], [99, 111, 114, 101], [104, 101, 97, 100], [98, 117, 100, 103, 101, 116], [98, 111, 100, 121], [105, 116, 101, 109, 115], [110, 97, 109, 101]], body := b_law_wild_core }
def b_law_touches : Ss := (.cons (.asg (.nm 1) (.dcel (.disp .nil .nil))) (.cons (.for_ (.nm 2) (.of (.loc 0)) (.cons (.asg (.nm 4) (.cel (.disp .nil))) (.cons (.for_ (.nm 5) (.of (.call f_law_statements (.cons (.idx (.loc 2) (.lit (.int 8))) .nil))) (.cons (.ifs (.cmp .eq (.idx (.loc 5) (.lit (.int 0))) (.lit (.str [115, 116, 111, 114, 101]))) (.cons (.expr (.mth .append (.loc 4) (.cons (.idx (.loc 5) (.lit (.int 1))) .nil))) .nil) (.cons (.ifs (.cmp .isIn (.idx (.loc 5) (.lit (.int 0))) (.frz (.disp (.cons (.lit (.str [112, 117, 115, 104])) (.cons (.lit (.str [112, 111, 112])) .nil))))) (.cons (.expr (.mth .append (.loc 4) (.cons (.idx (.loc 5) (.lit (.int 2))) .nil))) .nil) .nil) .nil)) .nil)) (.cons (.set (.loc 1) (.idx (.loc 2) (.lit (.int 0))) (.loc 4)) .nil)))) (.cons (.for_ (.nm 3) (.rng (.cons (.lit (.int 20)) .nil)) (.cons (.for_ (.nm 2) (.of (.loc 0)) (.cons (.for_ (.nm 5) (.of (.call f_law_statements (.cons (.idx (.loc 2) (.lit (.int 8))) .nil))) (.cons (.ifs (.cmp .eq (.idx (.loc 5) (.lit (.int 0))) (.lit (.str [99, 97, 108, 108]))) (.cons (.asg (.nm 6) (.idx (.call f_law_proc (.cons (.loc 0) (.cons (.idx (.loc 5) (.lit (.int 1))) .nil))) (.lit (.int 1)))) (.cons (.asg (.nm 7) (.frz (.comp (.idx (.idx (.idx (.loc 5) (.lit (.int 2))) (.loc 8)) (.lit (.int 1))) (.nm 8) (.rng (.cons (.bi .len (.cons (.loc 6) .nil)) .nil)) (.cmp .isIn (.idx (.idx (.loc 6) (.loc 8)) (.lit (.int 1))) (.idx (.loc 1) (.idx (.loc 5) (.lit (.int 1)))))))) (.cons (.set (.loc 1) (.idx (.loc 2) (.lit (.int 0))) (.frz (.cat (.idx (.loc 1) (.idx (.loc 2) (.lit (.int 0)))) (.loc 7)))) .nil))) .nil) .nil)) .nil)) .nil)) (.cons (.ret (.loc 1)) .nil))))
def d_law_touches : FD := { name := [95, 108, 97, 119, 95, 116, 111, 117, 99, 104, 101, 115], pars := 1, N := [[99, 111, 114, 101], [116, 97, 98, 108, 101], [112], [116, 117, 114, 110], [110, 97, 109, 101, 115], [115], [105, 116, 101, 109, 115], [112, 97, 115, 115, 101, 100], [107]], body := b_law_touches }
def blaw : Ss := (.cons (.asg (.nm 1) (.call f_law_start (.cons (.loc 0) .nil))) (.cons (.for_ (.nm 2) (.rng (.cons (.lit (.int 3)) .nil)) (.cons (.asg (.nm 3) (.call f_law_wild_core (.cons (.loc 1) .nil))) (.cons (.asg (.nm 4) (.call f_law_moves (.cons (.loc 3) .nil))) (.cons (.asg (.nm 5) (.call f_law_touches (.cons (.loc 3) .nil))) (.cons (.for_ (.nm 6) (.of (.loc 3)) (.cons (.ifs (.inv (.call f_law_same (.cons (.call finputs_of (.cons (.loc 3) (.cons (.idx (.loc 6) (.lit (.int 0))) .nil))) (.cons (.bi .tuple (.cons (.frz (.comp (.bin .add (.lit (.str [64])) (.call f_law_key (.cons (.loc 8) .nil))) (.nm 8) (.of (.idx (.loc 6) (.lit (.int 1)))) .no)) .nil)) .nil)))) (.cons (.ret (.lit (.bl false))) .nil) .nil) (.cons (.ifs (.inv (.call f_law_same (.cons (.call fstates_of (.cons (.loc 3) (.cons (.idx (.loc 6) (.lit (.int 0))) .nil))) (.cons (.bi .tuple (.cons (.call f_law_states (.cons (.loc 6) (.cons (.idx (.loc 4) (.idx (.loc 6) (.lit (.int 0)))) .nil))) .nil)) .nil)))) (.cons (.ret (.lit (.bl false))) .nil) .nil) (.cons (.ifs (.inv (.call f_law_same (.cons (.call foutcomes_of (.cons (.loc 3) (.cons (.idx (.loc 6) (.lit (.int 0))) .nil))) (.cons (.bi .tuple (.cons (.call f_law_outcomes (.cons (.loc 6) (.cons (.idx (.loc 4) (.idx (.loc 6) (.lit (.int 0)))) .nil))) .nil)) .nil)))) (.cons (.ret (.lit (.bl false))) .nil) .nil) (.cons (.asg (.nm 7) (.bi .tuple (.cons (.frz (.comp (.idx (.loc 8) (.lit (.int 1))) (.nm 8) (.of (.idx (.loc 6) (.lit (.int 1)))) (.cmp .isIn (.call f_law_key (.cons (.loc 8) .nil)) (.idx (.loc 4) (.idx (.loc 6) (.lit (.int 0))))))) .nil))) (.cons (.ifs (.inv (.call f_law_same (.cons (.call fmoving_of (.cons (.loc 3) (.cons (.idx (.loc 6) (.lit (.int 0))) .nil))) (.cons (.loc 7) .nil)))) (.cons (.ret (.lit (.bl false))) .nil) .nil) (.cons (.asg (.nm 7) (.bi .tuple (.cons (.frz (.comp (.loc 10) (.tu [9, 10]) (.of (.idx (.loc 6) (.lit (.int 1)))) (.and (.cons (.cmp .eq (.loc 9) (.lit (.str [97, 114, 114, 97, 121]))) (.cons (.cmp .isIn (.loc 10) (.idx (.loc 5) (.idx (.loc 6) (.lit (.int 0))))) .nil))))) .nil))) (.cons (.ifs (.inv (.call f_law_same (.cons (.call ftouched_of (.cons (.loc 3) (.cons (.idx (.loc 6) (.lit (.int 0))) .nil))) (.cons (.loc 7) .nil)))) (.cons (.ret (.lit (.bl false))) .nil) .nil) .nil)))))))) .nil))))) (.cons (.ret (.lit (.bl true))) .nil)))
def dlaw : FD := { name := [108, 97, 119], pars := 1, N := [[115, 99, 114, 105, 112, 116], [115, 116, 97, 116, 101], [116, 117, 114, 110], [99, 111, 114, 101], [109, 111, 118, 101, 115], [116, 111, 117, 99, 104, 101, 115], [112], [100, 117, 101], [105, 116, 101, 109], [107, 105, 110, 100], [120]], body := blaw }
def fds : List FD := (dstatements_in) :: (dproc_named) :: (dassigned_in) :: (dpassed_on) :: (dmoving_table) :: (dvariable_of) :: (dmoving_items) :: (dmoving_of) :: (dinputs_of_proc) :: (dstates_of_proc) :: (doutcomes_of_proc) :: (dinputs_of) :: (dstates_of) :: (doutcomes_of) :: (dchanged_in) :: (dpassed_to) :: (dtouched_table) :: (dtouched_of) :: (d_law_start) :: (d_law_draw) :: (d_law_one_of) :: (d_law_shuffled) :: (d_law_words) :: (d_law_is_int) :: (d_law_same) :: (d_law_key) :: (d_law_statements) :: (d_law_moves) :: (d_law_states) :: (d_law_outcomes) :: (d_law_proc) :: (d_law_wild_head) :: (d_law_wild_value) :: (d_law_wild_call) :: (d_law_wild_test) :: (d_law_wild_statement) :: (d_law_wild_block) :: (d_law_wild_core) :: (d_law_touches) :: (dlaw) :: []
def cvs : List (Option D) := [some vCHANGING]
def prog : Pr := { fd := fun g => fds[g]?, con := fun g => (cvs[g]?).getD none, wf := 100 }

/-! ### the law's own draws -/
abbrev stc (cs : List Int) (a b c : Int) : Cell := .lst [.d (.lst (cs.map D.int)), .d (.int a), .d (.int b), .d (.int c)]
theorem pu_cons {c : Cell} {R : Store} (hc : c.pure = true) (h : Pu R) : Pu (c :: R) := by
  show (c :: R).all Cell.pure = true
  rw [List.all_cons, hc]; exact h
theorem at_mod (cs : List Int) (a : Int) (h : 0 < cs.length) : ∃ z, atI (cs.map D.int) (a % (cs.length : Int)) = some (.int z) := by
  have h0 : 0 ≤ a % (cs.length : Int) := Int.emod_nonneg _ (by omega)
  have h1 : a % (cs.length : Int) < cs.length := Int.emod_lt_of_pos _ (by omega)
  have h2 : (a % (cs.length : Int)).toNat < cs.length := by omega
  refine ⟨cs[(a % (cs.length : Int)).toNat], ?_⟩
  unfold atI ixN
  rw [List.length_map, if_pos h0, if_pos h1, Option.bind_some, List.getElem?_map, List.getElem?_eq_getElem h2]
  rfl
theorem draw_ok {k : Nat} {R : Store} {most : Int} (cs : List Int) (a b c : Int) (hR : Pu R) (h0 : 0 < most) (h1 : most < 1073741824) {Q : W × Store → Prop} (hq : ∀ z cs a b c, 0 ≤ z → z < most → Q (.d (.int z), stc cs a b c :: R)) :
    Wp (run prog (k + 1) f_law_draw [.r 0, .d (.int most)] (stc cs a b c :: R)) Q := by
  have m0 : ∀ z : Int, 0 ≤ z % most ∧ z % most < most := fun z => ⟨Int.emod_nonneg _ (by omega), Int.emod_lt_of_pos _ h0⟩
  have fin : ∀ (z : Int) (cs : List Int) (a b c : Int), 0 ≤ z → z < most → Pu (stc cs a b c :: R) ∧ ∃ d, W.d (.int z) = W.d d ∧ Q (.d d, (stc cs a b c :: R).take (R.length + 1)) := fun z cs a b c h2 h3 => by
    refine ⟨pu_cons rfl hR, _, rfl, ?_⟩
    rw [List.take_of_length_le (by simp)]
    exact hq z _ _ _ _ h2 h3
  have modS : ∀ z : Int, binSem .mod (.d (.int z)) (.d (.int most)) = some (.d (.int (z % most))) := fun z => by simp only [binSem, if_pos h0]
  have divS : ∀ z : Int, binSem .fdiv (.d (.int z)) (.d (.int most)) = some (.d (.int (z / most))) := fun z => by simp only [binSem]; rw [if_pos ⟨h0, h1⟩]
  refine run_cells (fd := d_law_draw) rfl rfl rfl rfl fun F hF => ?_
  refine wps_set (M4 := stc cs a b (c + 1) :: R) rfl rfl rfl rfl ?_
  refine wps_if (M1 := stc cs a b (c + 1) :: R) (x := .d (.bl (decide (0 < b)))) (t := decide (0 < b)) rfl rfl ?_
  by_cases hb : 0 < b
  · rw [decide_eq_true hb, if_pos rfl]
    have e1 : evE ⟨F, prog.con, prog.wf⟩ (.bin .mod (.bi .int (.cons (.idx (.loc 0) (.lit (.int 2))) .nil)) (.loc 1)) [some (.r 0), some (.d (.int most)), none, none, none] (stc cs a b (c + 1) :: R) = .ok (.d (.int (b % most)), stc cs a b (c + 1) :: R) := by
      show (TN.R.of (binSem .mod (.d (.int b)) (.d (.int most)))).bind _ = _
      rw [modS]; rfl
    have e2 : evE ⟨F, prog.con, prog.wf⟩ (.bin .fdiv (.idx (.loc 0) (.lit (.int 2))) (.loc 1)) [some (.r 0), some (.d (.int most)), none, none, some (.d (.int (b % most)))] (stc cs a b (c + 1) :: R) = .ok (.d (.int (b / most)), stc cs a b (c + 1) :: R) := by
      show (TN.R.of (binSem .fdiv (.d (.int b)) (.d (.int most)))).bind _ = _
      rw [divS]; rfl
    refine wps_asg (wpe_ok e1 ⟨_, rfl, ?_⟩)
    refine wps_set (M4 := stc cs a (b / most) (c + 1) :: R) e2 rfl rfl rfl ?_
    refine wps_ret (wpe_ok (w := .d (.int (b % most))) (M1 := stc cs a (b / most) (c + 1) :: R) rfl ?_)
    exact fin _ _ _ _ _ (m0 b).1 (m0 b).2
  · rw [decide_eq_false hb, if_neg (by decide)]
    refine wps_nil ?_
    refine wps_asg (wpe_ok (w := .d (.int 0)) (M1 := stc cs a b (c + 1) :: R) rfl ⟨[some (.r 0), some (.d (.int most)), some (.d (.int 0)), none, none], rfl, ?_⟩)
    refine wps_if (M1 := stc cs a b (c + 1) :: R) (x := .d (.bl (decide (0 < ((cs.map D.int).length : Int))))) (t := decide (0 < ((cs.map D.int).length : Int))) rfl rfl ?_
    have rest : ∀ z : Int, Wp (evSs ⟨F, prog.con, prog.wf⟩ (Ss.cons (.set (.loc 0) (.lit (.int 1)) (.bin .add (.idx (.loc 0) (.lit (.int 1))) (.lit (.int 1)))) (.cons (.ifs (.cmp .ge (.loc 2) (.bin .pow (.lit (.int 10)) (.lit (.int 18)))) (.cons (.set (.loc 0) (.lit (.int 2)) (.bin .fdiv (.loc 2) (.loc 1))) (.cons (.ret (.bin .mod (.bi .int (.cons (.loc 2) .nil)) (.loc 1))) .nil)) .nil) (.cons (.asg (.nm 3) (.bin .mod (.bi .int (.cons (.bin .add (.bin .mul (.bin .add (.loc 2) (.lit (.int 1))) (.lit (.int 48271))) (.bin .mul (.idx (.loc 0) (.lit (.int 3))) (.lit (.int 69621)))) .nil)) (.lit (.int 2147483647)))) (.cons (.asg (.nm 3) (.bin .mod (.bi .int (.cons (.bin .add (.bin .add (.bin .mul (.loc 3) (.lit (.int 16807))) (.bin .fdiv (.loc 2) (.lit (.int 97)))) (.idx (.loc 0) (.lit (.int 3)))) .nil)) (.lit (.int 2147483629)))) (.cons (.ret (.bin .mod (.bin .fdiv (.loc 3) (.lit (.int 11))) (.loc 1))) .nil)))))
        [some (.r 0), some (.d (.int most)), some (.d (.int z)), none, none] (stc cs a b (c + 1) :: R)) fun r => Pu r.2.2 ∧ ∃ d, (match r.1 with | .nx => d = .non | .ret w => w = .d d | _ => False) ∧ Q (.d d, r.2.2.take (stc cs a b c :: R).length) := fun z => by
      have fin2 : ∀ y : Int, 0 ≤ y → y < most → ∀ b, Pu (stc cs (a + 1) b (c + 1) :: R) ∧ ∃ d, W.d (.int y) = W.d d ∧ Q (.d d, (stc cs (a + 1) b (c + 1) :: R).take (R.length + 1)) := fun y h2 h3 b => fin y _ _ _ _ h2 h3
      refine wps_set (M4 := stc cs (a + 1) b (c + 1) :: R) rfl rfl rfl rfl ?_
      have ec : evE ⟨F, prog.con, prog.wf⟩ (.cmp .ge (.loc 2) (.bin .pow (.lit (.int 10)) (.lit (.int 18)))) [some (.r 0), some (.d (.int most)), some (.d (.int z)), none, none] (stc cs (a + 1) b (c + 1) :: R) = .ok (.d (.bl (decide ((10 : Int) ^ 18 ≤ z))), stc cs (a + 1) b (c + 1) :: R) := by
        rfl
      refine wps_if ec rfl ?_
      by_cases hz : (10 : Int) ^ 18 ≤ z
      · rw [decide_eq_true hz, if_pos rfl]
        have e2 : evE ⟨F, prog.con, prog.wf⟩ (.bin .fdiv (.loc 2) (.loc 1)) [some (.r 0), some (.d (.int most)), some (.d (.int z)), none, none] (stc cs (a + 1) b (c + 1) :: R) = .ok (.d (.int (z / most)), stc cs (a + 1) b (c + 1) :: R) := by
          show (TN.R.of (binSem .fdiv (.d (.int z)) (.d (.int most)))).bind _ = _
          rw [divS]; rfl
        refine wps_set (M4 := stc cs (a + 1) (z / most) (c + 1) :: R) e2 rfl rfl rfl ?_
        have e3 : evE ⟨F, prog.con, prog.wf⟩ (.bin .mod (.bi .int (.cons (.loc 2) .nil)) (.loc 1)) [some (.r 0), some (.d (.int most)), some (.d (.int z)), none, none] (stc cs (a + 1) (z / most) (c + 1) :: R) = .ok (.d (.int (z % most)), stc cs (a + 1) (z / most) (c + 1) :: R) := by
          show (TN.R.of (binSem .mod (.d (.int z)) (.d (.int most)))).bind _ = _
          rw [modS]; rfl
        exact wps_ret (wpe_ok e3 (fin2 _ (m0 z).1 (m0 z).2 _))
      · rw [decide_eq_false hz, if_neg (by decide)]
        refine wps_nil ?_
        have e4 : ∃ y, evE ⟨F, prog.con, prog.wf⟩ (.bin .mod (.bi .int (.cons (.bin .add (.bin .mul (.bin .add (.loc 2) (.lit (.int 1))) (.lit (.int 48271))) (.bin .mul (.idx (.loc 0) (.lit (.int 3))) (.lit (.int 69621)))) .nil)) (.lit (.int 2147483647))) [some (.r 0), some (.d (.int most)), some (.d (.int z)), none, none] (stc cs (a + 1) b (c + 1) :: R) = .ok (.d (.int y), stc cs (a + 1) b (c + 1) :: R) := by
          exact ⟨_, rfl⟩
        obtain ⟨y, e4⟩ := e4
        refine wps_asg (wpe_ok e4 ⟨[some (.r 0), some (.d (.int most)), some (.d (.int z)), some (.d (.int y)), none], rfl, ?_⟩)
        have e5 : ∃ y', evE ⟨F, prog.con, prog.wf⟩ (.bin .mod (.bi .int (.cons (.bin .add (.bin .add (.bin .mul (.loc 3) (.lit (.int 16807))) (.bin .fdiv (.loc 2) (.lit (.int 97)))) (.idx (.loc 0) (.lit (.int 3)))) .nil)) (.lit (.int 2147483629))) [some (.r 0), some (.d (.int most)), some (.d (.int z)), some (.d (.int y)), none] (stc cs (a + 1) b (c + 1) :: R) = .ok (.d (.int y'), stc cs (a + 1) b (c + 1) :: R) := by
          exact ⟨_, rfl⟩
        obtain ⟨y', e5⟩ := e5
        refine wps_asg (wpe_ok e5 ⟨[some (.r 0), some (.d (.int most)), some (.d (.int z)), some (.d (.int y')), none], rfl, ?_⟩)
        have e6 : evE ⟨F, prog.con, prog.wf⟩ (.bin .mod (.bin .fdiv (.loc 3) (.lit (.int 11))) (.loc 1)) [some (.r 0), some (.d (.int most)), some (.d (.int z)), some (.d (.int y')), none] (stc cs (a + 1) b (c + 1) :: R) = .ok (.d (.int (y' / 11 % most)), stc cs (a + 1) b (c + 1) :: R) := by
          show (TN.R.of (binSem .mod (.d (.int (y' / 11))) (.d (.int most)))).bind _ = _
          rw [modS]; rfl
        exact wps_ret (wpe_ok e6 (fin2 _ (m0 _).1 (m0 _).2 _))
    by_cases hl : 0 < ((cs.map D.int).length : Int)
    · rw [decide_eq_true hl, if_pos rfl]
      have hl2 : 0 < cs.length := by simpa using hl
      obtain ⟨z, ez⟩ := at_mod cs a hl2
      have e7 : evE ⟨F, prog.con, prog.wf⟩ (.bi .abs (.cons (.idx (.idx (.loc 0) (.lit (.int 0))) (.bin .mod (.bi .int (.cons (.idx (.loc 0) (.lit (.int 1))) .nil)) (.bi .len (.cons (.idx (.loc 0) (.lit (.int 0))) .nil)))) .nil)) [some (.r 0), some (.d (.int most)), some (.d (.int 0)), none, none] (stc cs a b (c + 1) :: R) = .ok (.d (.int (if z < 0 then -z else z)), stc cs a b (c + 1) :: R) := by
        have hi : binSem .mod (.d (.int a)) (.d (.int ((cs.map D.int).length : Int))) = some (.d (.int (a % (cs.length : Int)))) := by
          show (if 0 < ((cs.map D.int).length : Int) then some (W.d (.int (a % ((cs.map D.int).length : Int)))) else none) = _
          rw [if_pos hl, List.length_map]
        exact eve_bi (eve_one (eve_idx (M1 := stc cs a b (c + 1) :: R) rfl (eve_bin (M1 := stc cs a b (c + 1) :: R) (M2 := stc cs a b (c + 1) :: R) rfl rfl hi) (by simp only [idxSem]; rw [ez]; rfl))) rfl
      refine wps_asg (wpe_ok e7 ⟨[some (.r 0), some (.d (.int most)), some (.d (.int (if z < 0 then -z else z))), none, none], rfl, ?_⟩)
      exact wps_nil (rest _)
    · rw [decide_eq_false hl, if_neg (by decide)]
      exact wps_nil (rest 0)
/-- behind a def: its answer, the state -/
theorem done {Q : W × Store → Prop} {R : Store} {d : D} {cs cs0 : List Int} {a b c a0 b0 c0 : Int} (hR : Pu R) (h : Q (.d d, stc cs a b c :: R)) : Pu (stc cs a b c :: R) ∧ ∃ e, W.d d = W.d e ∧ Q (.d e, (stc cs a b c :: R).take (stc cs0 a0 b0 c0 :: R).length) := by
  refine ⟨pu_cons rfl hR, _, rfl, ?_⟩
  rw [List.take_of_length_le (by simp)]
  exact h
theorem drawN {k : Nat} {R : Store} {most : Nat} (cs : List Int) (a b c : Int) (hR : Pu R) (h0 : 0 < most) (h1 : most < 1073741824) {Q : W × Store → Prop} (hq : ∀ (z : Nat) cs a b c, z < most → Q (.d (.int z), stc cs a b c :: R)) :
    Wp (run prog (k + 1) f_law_draw [.r 0, .d (.int (most : Int))] (stc cs a b c :: R)) Q := draw_ok cs a b c hR (by omega) (by omega) fun z cs a b c h2 h3 => by
  obtain ⟨n, rfl⟩ := Int.eq_ofNat_of_zero_le h2
  exact hq n cs a b c (by omega)
theorem atN {ds : List D} {z : Nat} (h : z < ds.length) : atI ds (z : Int) = some ds[z] := by
  unfold atI ixN
  rw [if_pos (by omega), if_pos (by omega), Option.bind_some, Int.toNat_natCast, List.getElem?_eq_getElem h]
theorem one_ok {k : Nat} {R : Store} {x : D} {ds : List D} (hx : x = .lst ds ∨ x = .tup ds) (cs : List Int) (a b c : Int) (hR : Pu R) (h0 : 0 < ds.length) (h1 : ds.length < 1073741824) {Q : W × Store → Prop} (hq : ∀ d cs a b c, d ∈ ds → Q (.d d, stc cs a b c :: R)) :
    Wp (run prog (k + 2) f_law_one_of [.r 0, .d x] (stc cs a b c :: R)) Q := by
  have hlen : lenOf (stc cs a b c :: R) (.d x) = some ds.length := by rcases hx with rfl | rfl <;> rfl
  have hix : ∀ (M : Store) (z : Nat), z < ds.length → ∃ d, d ∈ ds ∧ idxSem M (.d x) (.d (.int (z : Int))) = some (.d d) := fun M z h => ⟨ds[z], List.getElem_mem h, by rcases hx with rfl | rfl <;> simp only [idxSem, atN h, Option.map_some]⟩
  refine run_cells (fd := d_law_one_of) rfl rfl rfl rfl fun F hF => ?_
  refine wps_ret (wpe_idx (wpe_ok rfl ?_))
  refine wpe_call (ws := [.r 0, .d (.int (ds.length : Int))]) (M1 := stc cs a b c :: R) (eve_cons rfl (eve_one (eve_bi (eve_one rfl) (by simp only [biSem]; rw [hlen]; rfl)))) ?_
  refine call_of hF (drawN cs a b c hR h0 h1 fun z cs a b c hz => ?_)
  obtain ⟨d, hd, e⟩ := hix (stc cs a b c :: R) z hz
  exact ⟨_, e, done hR (hq d cs a b c hd)⟩
theorem lays_mem : ∀ {ds : List D} {d : D}, D.lays ds = true → d ∈ ds → d.lay = true
  | x :: ds, d, h, hm => by
    simp only [D.lays, Bool.and_eq_true] at h
    rcases List.mem_cons.mp hm with rfl | hm
    · exact h.1
    · exact lays_mem h.2 hm
theorem lays_app : ∀ {xs ys : List D}, D.lays xs = true → D.lays ys = true → D.lays (xs ++ ys) = true
  | [], ys, _, h => h
  | x :: xs, ys, h, h2 => by
    simp only [D.lays, Bool.and_eq_true] at h
    simp only [List.cons_append, D.lays, Bool.and_eq_true]
    exact ⟨h.1, lays_app h.2 h2⟩
theorem toDs_map : ∀ es : List D, toDs (es.map W.d) = some es
  | [] => rfl
  | e :: es => by simp only [List.map_cons, toDs, toDs_map es, Option.map_some]
abbrev Gm (F : Nat → List W → Store → TN.R (W × Store)) : Ctx := ⟨F, prog.con, prog.wf⟩
theorem pu_l (l : List D) : (l.map W.d).all W.pure = true := List.all_eq_true.mpr fun w hw => by
  obtain ⟨d, _, rfl⟩ := List.mem_map.mp hw
  rfl
end TN


namespace TN
/-! ### general -/
theorem frzL_map (g : W → Option D) (hg : ∀ d, g (.d d) = some d) : ∀ ls : List D, frzL g (ls.map W.d) = some ls
  | [] => rfl
  | d :: ls => by simp only [List.map_cons, frzL, hg, frzL_map g hg ls, Option.bind_some, Option.map_some]
theorem frz_d (M : Store) (lo : Nat) : ∀ k d, frzW M lo k (.d d) = some d := fun k d => by cases k <;> rfl
theorem frz_r {M : Store} {lo k n : Nat} {ds : List D} (h : M[n]? = some (.lst (ds.map W.d))) (hn : lo ≤ n) : frzW M lo (k + 1) (.r n) = some (.lst ds) := by
  simp only [frzW, h]
  rw [if_neg (by omega), frzL_map _ (frz_d M lo k)]
  rfl
/-- a call by data that answers by its own list -/
theorem run_pureC {P : Pr} {k f : Nat} {ws : List W} {fd : FD} {ds : List D} (hf : P.fd f = some fd) (hl : ws.length = fd.pars) (hp : ws.all W.pure = true) (hk : fd.keep = false)
    (h : ∀ F, F = run P k → Wp (evSs ⟨F, P.con, P.wf⟩ fd.body (startEnv fd.N.length ws) []) fun r => ∃ n, r.1 = .ret (.r n) ∧ r.2.2[n]? = some (.lst (ds.map W.d))) (M : Store) : run P (k + 1) f ws M = .ok (.d (.lst ds), M) := by
  obtain ⟨⟨fl, s, M'⟩, e, n, hd, hm⟩ := (h _ rfl).get
  simp only at hd hm
  subst hd
  unfold run
  simp only [hf, hl, if_true, hp, e, hk, fin]
  rw [frz_r hm (Nat.zero_le _)]
  rfl
theorem run_pureK {P : Pr} {k f : Nat} {ws : List W} {fd : FD} {ds : List D} (hf : P.fd f = some fd) (hl : ws.length = fd.pars) (hp : ws.all W.pure = true) (hk : fd.keep = true)
    (h : ∀ F, F = run P k → Wp (evSs ⟨F, P.con, P.wf⟩ fd.body (startEnv fd.N.length ws) []) fun r => r.1 = .ret (.r 0) ∧ r.2.2 = [.lst (ds.map W.d)]) (M : Store) : run P (k + 1) f ws M = .ok (.r M.length, M ++ [.lst (ds.map W.d)]) := by
  obtain ⟨⟨fl, s, M'⟩, e, hd, hm⟩ := (h _ rfl).get
  simp only at hd hm
  subst hd hm
  unfold run
  simp only [hf, hl, if_true, hp, e, hk, fin, W.up, List.map_cons, List.map_nil, Cell.up, Nat.zero_add]
  have e2 : (ds.map W.d).map (W.up M.length) = ds.map W.d := by
    rw [List.map_map]; rfl
  rw [e2]
/-- a call that keeps its cells -/
theorem run_keep {P : Pr} {k f : Nat} {ws : List W} {M : Store} {fd : FD} {Q : W × Store → Prop} (hf : P.fd f = some fd) (hl : ws.length = fd.pars) (hp : ws.all W.pure = false) (hk : fd.keep = true)
    (h : ∀ F, F = run P k → Wp (evSs ⟨F, P.con, P.wf⟩ fd.body (startEnv fd.N.length ws) M) fun r => ∃ w, r.1 = .ret w ∧ Q (w, r.2.2)) : Wp (run P (k + 1) f ws M) Q := by
  obtain ⟨⟨fl, s, M'⟩, e, w, hd, hq⟩ := (h _ rfl).get
  simp only at hd hq
  subst hd
  unfold run
  simp only [hf, hl, if_true, hp, Bool.false_eq_true, if_false, e, hk, fin, wp_ok]
  exact hq
/-- a call whose answer is frozen -/
theorem run_cellsF {P : Pr} {k f : Nat} {ws : List W} {M : Store} {fd : FD} {Q : W × Store → Prop} (hf : P.fd f = some fd) (hl : ws.length = fd.pars) (hp : ws.all W.pure = false) (hk : fd.keep = false)
    (h : ∀ F, F = run P k → Wp (evSs ⟨F, P.con, P.wf⟩ fd.body (startEnv fd.N.length ws) M) fun r => ∃ w d, r.1 = .ret w ∧ frzW r.2.2 M.length (r.2.2.length + 1) w = some d ∧ Pu (r.2.2.take M.length) ∧ Q (.d d, r.2.2.take M.length)) : Wp (run P (k + 1) f ws M) Q := by
  obtain ⟨⟨fl, s, M'⟩, e, w, d, hd, hz, hpu, hq⟩ := (h _ rfl).get
  simp only at hd hq hz hpu
  subst hd
  have hb : (M'.take M.length).all (Cell.below M.length) = true := List.all_eq_true.mpr fun c hc => Cell.pure_below (List.all_eq_true.mp hpu c hc) _
  unfold run
  simp only [hf, hl, if_true, hp, Bool.false_eq_true, if_false, e, hk, fin, hz, TN.R.of_some, TN.R.bind_ok, hb, wp_ok]
  exact hq
theorem get_last (G : Store) (c : Cell) : (G ++ [c])[G.length]? = some c := by simp
theorem set_last (c c' : Cell) : ∀ G : Store, (G ++ [c]).set G.length c' = G ++ [c']
  | [] => rfl
  | g :: G => by
    show g :: (G ++ [c]).set G.length c' = _
    rw [set_last c c' G]; rfl
theorem pu_app {A B : Store} (hA : Pu A) (hB : Pu B) : Pu (A ++ B) := by
  show (A ++ B).all Cell.pure = true
  rw [List.all_append, hA, hB]; rfl
theorem pu_lst (ds : List D) : Pu [.lst (ds.map W.d)] := by
  show ([Cell.lst (ds.map W.d)] : Store).all Cell.pure = true
  rw [List.all_cons, List.all_nil, Bool.and_true]
  exact pu_l ds
theorem pu_stc {R : Store} {cs : List Int} {a b c : Int} (h : Pu R) : Pu (stc cs a b c :: R) := pu_cons rfl h
section
variable {Γ : Ctx} {s : Env} {M M1 G : Store}
/-- x.append(e), x at the store's end -/
theorem wpe_app {i n : Nat} {e : E} {ws : List W} {Q : W × Store → Prop} (hs : s[i]? = some (some (.r n))) (hn : n = G.length) (h : Wp (evE Γ e s (G ++ [.lst ws])) fun r => ∃ G', r.2 = G' ++ [.lst ws] ∧ G'.length = n ∧ ws.length < line ∧ Q (.d .non, G' ++ [.lst (ws ++ [r.1])])) : Wp (evE Γ (.mth .append (.loc i) (.cons e .nil)) s (G ++ [.lst ws])) Q := by
  subst hn
  refine wpe_mth (wpe_loc ⟨_, hs, ?_, ?_⟩)
  · simp only [mtRcv, get_last]
  · refine wpa_cons (h.mono fun r hr => wpa_nil ?_)
    obtain ⟨G', e1, e2, hl, hq⟩ := hr
    refine ⟨_, ?_, hq⟩
    have g1 : r.2[G.length]? = some (.lst ws) := by rw [e1, ← e2]; exact get_last _ _
    simp only [mtSem, g1, if_pos hl]
    rw [e1, ← e2, set_last]
theorem wpe_ext {i n : Nat} {e : E} {ws : List W} {Q : W × Store → Prop} (hs : s[i]? = some (some (.r n))) (hn : n = G.length) (h : Wp (evE Γ e s (G ++ [.lst ws])) fun r => ∃ G' ys, r.2 = G' ++ [.lst ws] ∧ G'.length = n ∧ seqOf r.2 r.1 = some ys ∧ ws.length + ys.length ≤ line ∧ Q (.d .non, G' ++ [.lst (ws ++ ys)])) : Wp (evE Γ (.mth .extend (.loc i) (.cons e .nil)) s (G ++ [.lst ws])) Q := by
  subst hn
  refine wpe_mth (wpe_loc ⟨_, hs, ?_, ?_⟩)
  · simp only [mtRcv, get_last]
  · refine wpa_cons (h.mono fun r hr => wpa_nil ?_)
    obtain ⟨G', ys, e1, e2, hy, hl, hq⟩ := hr
    refine ⟨_, ?_, hq⟩
    have g1 : r.2[G.length]? = some (.lst ws) := by rw [e1, ← e2]; exact get_last _ _
    simp only [mtSem, g1, hy, if_pos hl]
    rw [e1, ← e2, set_last]
end
theorem rng_nat {n : Nat} (h : n < 10000) : rngSem [.d (.int (n : Int))] = some (rngItems 0 n) := by
  simp only [rngSem]
  rw [if_pos ⟨by omega, by omega⟩]
  rfl
theorem sm_of {j : Int} (h : 0 ≤ j) (h2 : j < 1000) : sm64 j = true := by
  unfold sm64
  rw [decide_eq_true (by omega), decide_eq_true (by omega)]; rfl
theorem cut_drop {ds : List D} {z : Nat} (h : z ≤ ds.length) : cut (ds.map W.d) (some (z : Int)) none = (ds.drop z).map W.d := by
  have e : sIx (ds.map W.d).length 0 (some (z : Int)) = z := by
    simp only [sIx, List.length_map]
    rw [if_neg (by omega)]
    omega
  unfold cut
  rw [e]
  simp only [sIx]
  rw [List.map_drop, List.take_of_length_le (by simp)]
/-! ### shuffled -/
theorem shuf_go {F : Nat → List W → Store → TN.R (W × Store)} {k : Nat} (hF : F = run prog (k + 1)) {R : Store} {ds : List D} (hR : Pu R) {Q : TN.Flow × Env × Store → Prop} :
    ∀ (rest es : List D) (cs : List Int) (a b c : Int), es.length + rest.length < 1000 → (∀ (es' : List D) cs a b c, es'.Perm (es ++ rest) → Q (.nx, [some (.r 0), some (.d (.lst ds)), some (.r (R.length + 1)), none], stc cs a b c :: (R ++ [.lst (es'.map W.d)]))) →
      Wp (forLoop (Tg.nm 3).put (fun s M => evSs (Gm F) (Ss.cons (.expr (.mth .insert (.loc 2) (.cons (.call f_law_draw (.cons (.loc 0) (.cons (.bin .add (.bi .len (.cons (.loc 2) .nil)) (.lit (.int 1))) .nil))) (.cons (.loc 3) .nil)))) .nil) s M) [] [some (.r 0), some (.d (.lst ds)), some (.r (R.length + 1)), none]
        ((rest.map W.d).map Itm.one) [some (.r 0), some (.d (.lst ds)), some (.r (R.length + 1)), none] (stc cs a b c :: (R ++ [.lst (es.map W.d)]))) Q
  | [], es, cs, a, b, c, hn, hq => wpf_nil (hq es cs a b c (by simp))
  | d :: rest, es, cs, a, b, c, hn, hq => by
    simp only [List.length_cons] at hn
    refine wpf_cons (s1 := [some (.r 0), some (.d (.lst ds)), some (.r (R.length + 1)), some (.d d)]) rfl ?_
    have g0 : ∀ (cs : List Int) (a b c : Int) (x : Cell), (stc cs a b c :: (R ++ [x]))[R.length + 1]? = some x := fun cs a b c x => get_last (stc cs a b c :: R) x
    refine wps_expr (wpe_mth (wpe_ok (w := .r (R.length + 1)) (M1 := stc cs a b c :: (R ++ [.lst (es.map W.d)])) rfl ⟨?_, ?_⟩))
    · simp only [mtRcv, g0]
    · have e1 : lenOf (stc cs a b c :: (R ++ [.lst (es.map W.d)])) (.r (R.length + 1)) = some es.length := by
        simp only [lenOf, g0, List.length_map]
      have e2 : evEs (Gm F) (.cons (.loc 0) (.cons (.bin .add (.bi .len (.cons (.loc 2) .nil)) (.lit (.int 1))) .nil)) [some (.r 0), some (.d (.lst ds)), some (.r (R.length + 1)), some (.d d)] (stc cs a b c :: (R ++ [.lst (es.map W.d)])) = .ok ([.r 0, .d (.int ((es.length + 1 : Nat) : Int))], stc cs a b c :: (R ++ [.lst (es.map W.d)])) :=
        eve_cons rfl (eve_one (eve_bin (eve_bi (eve_one rfl) (by simp only [biSem]; rw [e1]; rfl)) rfl rfl))
      refine wpa_cons (wpe_call e2 (call_of hF (drawN (most := es.length + 1) cs a b c (pu_app hR (pu_lst es)) (by omega) (by omega) fun z cs a b c hz => ?_)))
      refine wpa_cons (wpe_loc ⟨_, rfl, wpa_nil ?_⟩)
      refine ⟨(.d .non, stc cs a b c :: (R ++ [.lst ((es.take z ++ d :: es.drop z).map W.d)])), ?_, ?_⟩
      · simp only [mtSem, g0, List.length_map, Int.toNat_natCast]
        rw [if_pos ⟨by unfold line; omega, by omega, by omega⟩]
        have := set_last (.lst (es.map W.d)) (.lst ((es.take z ++ d :: es.drop z).map W.d)) (stc cs a b c :: R)
        simp only [List.map_append, List.map_cons, List.map_take, List.map_drop] at this ⊢
        exact congrArg some (congrArg (Prod.mk _) this)
      · refine wps_nil ⟨rfl, ?_⟩
        have hp : (es.take z ++ d :: es.drop z).Perm (d :: es) := by
          have := (List.perm_middle (a := d) (l₁ := es.take z) (l₂ := es.drop z))
          rwa [List.take_append_drop] at this
        refine shuf_go hF hR rest _ cs a b c (by have := hp.length_eq; simp only [List.length_cons] at this; omega) fun es' cs a b c he => hq es' cs a b c ?_
        refine he.trans ((hp.append_right rest).trans ?_)
        exact (List.perm_middle (a := d) (l₁ := es) (l₂ := rest)).symm
theorem shuf_ok {k : Nat} {R : Store} {ds : List D} (cs : List Int) (a b c : Int) (hR : Pu R) (hn : ds.length < 1000) {Q : W × Store → Prop} (hq : ∀ (es : List D) cs a b c, es.Perm ds → Q (.r (R.length + 1), stc cs a b c :: (R ++ [.lst (es.map W.d)]))) :
    Wp (run prog (k + 2) f_law_shuffled [.r 0, .d (.lst ds)] (stc cs a b c :: R)) Q := by
  refine run_keep (fd := d_law_shuffled) rfl rfl rfl rfl fun F hF => ?_
  refine wps_asg (wpe_ok (w := .r (R.length + 1)) (M1 := stc cs a b c :: (R ++ [.lst []])) rfl ⟨[some (.r 0), some (.d (.lst ds)), some (.r (R.length + 1)), none], rfl, ?_⟩)
  refine wps_for (items := (ds.map W.d).map Itm.one) (gs := []) (M1 := stc cs a b c :: (R ++ [.lst []])) rfl ?_
  refine shuf_go hF hR ds [] cs a b c (by simpa using hn) fun es' cs a b c he => ?_
  exact wps_ret (wpe_loc ⟨_, rfl, _, rfl, hq es' cs a b c (by simpa using he)⟩)
/-! ### words -/
def wrd (side : Bool) (sh : Tx) (st t k : Nat) : Tx := if side then sh ++ [97 + (st + k * (1 + 2 * t)) % 26] else [97 + (st + k * (1 + 2 * t)) % 26] ++ sh
abbrev lets : Tx := [97, 98, 99, 100, 101, 102, 103, 104, 105, 106, 107, 108, 109, 110, 111, 112, 113, 114, 115, 116, 117, 118, 119, 120, 121, 122]
theorem let_at (M : Store) : ∀ i : Fin 26, idxSem M (.d (.str lets)) (.d (.int ((i.val : Nat) : Int))) = some (.d (.str [97 + i.val])) := by
  intro ⟨i, hi⟩
  have : atI lets (i : Int) = some (97 + i) := by
    have h : ∀ j : Fin 26, atI lets ((j.val : Nat) : Int) = some (97 + j.val) := by decide +kernel
    exact h ⟨i, hi⟩
  simp only [idxSem]
  rw [if_pos (by decide), this]; rfl
abbrev wrds (side : Bool) (j st t n : Nat) : List D := (List.range n).map fun i => D.str (wrd side (([113, 120, 122] : Tx).take j) st t i)
def gI (f : Nat → D) : Itm → D
  | .one (.d (.int i)) => f i.toNat
  | _ => .non
theorem comp_rng {bt : Itm → Option Env} {c : Env → Store → TN.R (Bool × Store)} {e : Env → Store → TN.R (W × Store)} {gs : List Nat} {M : Store} (hM : Pu M) (f : Nat → D) {n : Nat} (hn : n < 1000)
    (h : ∀ i, i < n → ∃ s, bt (.one (.d (.int (0 + (i : Int))))) = some s ∧ c s M = .ok (true, M) ∧ e s M = .ok (.d (f i), M)) {Q : List W × Store → Prop} (hq : Q (((List.range n).map f).map W.d, M)) : Wp (compLoop bt c e gs (rngItems 0 n) M []) Q := by
  refine comp_dt hM (gI f) (rngItems 0 n) [] (by simp [rngItems]; omega) (fun it hi => ?_) ?_
  · obtain ⟨i, hm, rfl⟩ := List.mem_map.mp hi
    have hm := List.mem_range.mp hm
    obtain ⟨s, h1, h2, h3⟩ := h i hm
    refine ⟨s, h1, h2, ?_⟩
    simp only [gI, Int.zero_add, Int.toNat_natCast]
    exact h3
  · have e2 : ([] : List W) ++ (rngItems 0 n).map (fun it => W.d (gI f it)) = ((List.range n).map f).map W.d := by
      simp [rngItems, gI, List.map_map, Function.comp_def]
    rw [e2]
    exact hq
theorem evI_rng {Γ : Ctx} {es : Es} {s : Env} {M M1 : Store} {ws : List W} {items : List Itm} (h1 : evEs Γ es s M = .ok (ws, M1)) (h2 : rngSem ws = some items) : evI Γ (.rng es) s M = .ok (items, [], M1) := by
  simp only [evI, h1, h2, TN.R.bind_ok, TN.R.of_some]
theorem evE_loc {Γ : Ctx} {i : Nat} {s : Env} {M : Store} {w : W} (h : s[i]? = some (some w)) : evE Γ (.loc i) s M = .ok (w, M) := by
  simp only [evE, h]
theorem wcomp {F : Nat → List W → Store → TN.R (W × Store)} {M : Store} (hM : Pu M) {n : Nat} (f : Nat → D) {elt : E} {s : Env} {Q : W × Store → Prop} (hn : n < 1000)
    (hs : s[1]? = some (some (.d (.int (n : Int))))) (he : ∀ i, i < n → evE (Gm F) elt ((wipe s [6]).set 6 (some (.d (.int (0 + (i : Int)))))) M = .ok (.d (f i), M))
    (hq : Q (.d (.lst ((List.range n).map f)), M)) : Wp (evE (Gm F) (.frz (.comp elt (.nm 6) (.rng (.cons (.loc 1) .nil)) .no)) s M) Q := by
  have e1 : evI (Gm F) (.rng (.cons (.loc 1) .nil)) s M = .ok (rngItems 0 n, [], M) := evI_rng (eve_one (evE_loc hs)) (rng_nat (by omega))
  refine wpe_frz ?_
  generalize hx : rngItems 0 n = items at e1
  refine wpl_comp e1 ?_
  rw [← hx]
  exact comp_rng hM f hn (fun i hi => ⟨_, rfl, rfl, he i hi⟩) ⟨_, toDs_map _, hq⟩
theorem words_ok {k : Nat} {R : Store} {n : Nat} (hn : n < 1000) (cs : List Int) (a b c : Int) (hR : Pu R) {Q : W × Store → Prop} (hq : ∀ side j st t cs a b c, j < 4 → st < 26 → t < 6 → Q (.d (.lst (wrds side j st t n)), stc cs a b c :: R)) :
    Wp (run prog (k + 2) f_law_words [.r 0, .d (.int (n : Int))] (stc cs a b c :: R)) Q := by
  refine run_cells (fd := d_law_words) rfl rfl rfl rfl fun F hF => ?_
  refine wps_asg (wpe_lit ⟨_, rfl, ?_⟩)
  refine wps_asg (wpe_call (ws := [.r 0, .d (.int 26)]) rfl (call_of hF (drawN (most := 26) cs a b c hR (by decide) (by decide) fun st cs a b c hst => ⟨_, rfl, ?_⟩)))
  refine wps_asg (wpe_bin (wpe_lit (wpe_bin (wpe_lit (wpe_call (ws := [.r 0, .d (.int 6)]) rfl (call_of hF (drawN (most := 6) cs a b c hR (by decide) (by decide) fun t cs a b c ht => ⟨.d (.int (2 * (t : Int))), ?_, .d (.int (1 + 2 * (t : Int))), rfl, _, rfl, ?_⟩)))))))
  · simp only [binSem]
    rw [sm_of (by omega) (by omega)]; rfl
  refine wps_asg (wpe_sl (wpe_lit (wpp_no rfl (wpp_some rfl (wpe_call (ws := [.r 0, .d (.int 4)]) rfl (call_of hF (drawN (most := 4) cs a b c hR (by decide) (by decide) fun j cs a b c hj => ⟨_, rfl, .d (.str (([113, 120, 122] : Tx).take j)), ?_, _, rfl, ?_⟩)))))))
  · rcases (show j = 0 ∨ j = 1 ∨ j = 2 ∨ j = 3 by omega) with rfl | rfl | rfl | rfl <;> rfl
  have ei : ∀ (i : Nat) (sh : Tx) (M : Store) (X : Option W), i < n → evE (Gm F) (.idx (.loc 2) (.bin .mod (.bi .int (.cons (.bin .add (.loc 3) (.bin .mul (.loc 6) (.loc 4))) .nil)) (.lit (.int 26)))) [some (.r 0), some (.d (.int (n : Int))), some (.d (.str lets)), some (.d (.int (st : Int))), some (.d (.int (1 + 2 * (t : Int)))), some (.d (.str sh)), some (.d (.int (0 + (i : Int))))] M = .ok (.d (.str [97 + (st + i * (1 + 2 * t)) % 26]), M) := fun i sh M X hi => by
    refine eve_idx (x := .d (.str lets)) (y := .d (.int ((((st + i * (1 + 2 * t)) % 26 : Nat)) : Int))) rfl ?_ (let_at M ⟨_, Nat.mod_lt _ (by decide)⟩)
    refine eve_bin (x := .d (.int ((st : Int) + (0 + (i : Int)) * (1 + 2 * (t : Int))))) (y := .d (.int 26)) (M1 := M) ?_ rfl ?_
    · refine eve_bi (ws := [.d (.int ((st : Int) + (0 + (i : Int)) * (1 + 2 * (t : Int))))]) (eve_one (eve_bin (M1 := M) (x := .d (.int (st : Int))) (y := .d (.int ((0 + (i : Int)) * (1 + 2 * (t : Int))))) rfl ?_ rfl)) rfl
      refine eve_bin (M1 := M) (x := .d (.int (0 + (i : Int)))) (y := .d (.int (1 + 2 * (t : Int)))) rfl rfl ?_
      simp only [binSem]
      rw [sm_of (by omega) (by omega)]; rfl
    · simp only [binSem]
      rw [if_pos (by decide)]
      simp
  have hsh : ∀ j, (([113, 120, 122] : Tx).take j).length ≤ 3 := fun j => by rw [List.length_take]; exact Nat.min_le_right _ _
  refine wps_ifW (wpe_cmp (wpe_call (ws := [.r 0, .d (.int 2)]) rfl (call_of hF (drawN (most := 2) cs a b c hR (by decide) (by decide) fun y cs a b c hy => ?_))))
  rcases (show y = 0 ∨ y = 1 by omega) with rfl | rfl
  · refine wpe_lit ⟨true, rfl, true, rfl, ?_⟩
    with_reducible refine wpt_t ?_
    with_reducible refine wps_ret ?_
    with_reducible refine wcomp (n := n) (pu_stc hR) (fun i => D.str (wrd true (([113, 120, 122] : Tx).take j) st t i)) hn rfl (fun i hi => ?_) (done hR (hq true j st t cs a b c hj hst ht))
    refine eve_bin (M1 := stc cs a b c :: R) (x := .d (.str (([113, 120, 122] : Tx).take j))) rfl (ei i _ _ none hi) ?_
    simp only [binSem]
    rw [if_pos (by have := hsh j; simp only [List.length_cons, List.length_nil]; unfold line; omega)]
    rfl
  · refine wpe_lit ⟨false, rfl, false, rfl, ?_⟩
    with_reducible refine wpt_f ?_
    with_reducible refine wps_nil ?_
    with_reducible refine wps_ret ?_
    with_reducible refine wcomp (n := n) (pu_stc hR) (fun i => D.str (wrd false (([113, 120, 122] : Tx).take j) st t i)) hn rfl (fun i hi => ?_) (done hR (hq false j st t cs a b c hj hst ht))
    refine eve_bin (M1 := stc cs a b c :: R) (y := .d (.str (([113, 120, 122] : Tx).take j))) (ei i _ _ none hi) rfl ?_
    simp only [binSem]
    rw [if_pos (by have := hsh j; simp only [List.length_cons, List.length_nil]; unfold line; omega)]
    rfl
end TN


namespace TN
/-! ### what is drawn -/
structure PIt where
  arr : Bool
  nm : Tx
abbrev kdT (b : Bool) : Tx := cond b [97, 114, 114, 97, 121] [105, 110, 116]
def PIt.d (x : PIt) : D := .tup [.str (kdT x.arr), .str x.nm]
inductive PV where
  | nam (x : Tx) | num (i : Int) | len (a : Tx) | itm (a : Tx) (v : PV) | quo (q : Bool) (v : PV) (i : Int) | scl (i : Int) (v : PV) | pm (p : Bool) (v : PV) (i : Int)
def PV.d : PV → D
  | .nam x => .tup [.str [110, 97, 109, 101], .str x]
  | .num i => .tup [.str [110, 117, 109, 98, 101, 114], .int i]
  | .len a => .tup [.str [108, 101, 110, 103, 116, 104], .str a]
  | .itm a v => .tup [.str [105, 116, 101, 109], .str a, v.d]
  | .quo q v i => .tup [.str (cond q [113, 117, 111, 116, 105, 101, 110, 116] [114, 101, 109, 97, 105, 110, 100, 101, 114]), v.d, .int i]
  | .scl i v => .tup [.str [115, 99, 97, 108, 101], .int i, v.d]
  | .pm p v i => .tup [.str (cond p [112, 108, 117, 115] [109, 105, 110, 117, 115]), v.d, .tup [.str [110, 117, 109, 98, 101, 114], .int i]]
def PV.ok (is as : List Tx) : PV → Prop
  | .nam x => x ∈ is
  | .num i => 0 ≤ i ∧ i < 1000
  | .len a => a ∈ as
  | .itm a v => a ∈ as ∧ v.ok is as
  | .quo _ v i => v.ok is as ∧ 0 ≤ i ∧ i < 1000
  | .scl i v => (i = -1 ∨ i = 2) ∧ v.ok is as
  | .pm _ v i => v.ok is as ∧ 0 ≤ i ∧ i < 1000
def PV.dep : PV → Nat
  | .itm _ v => v.dep + 1
  | .quo _ v _ => v.dep + 1
  | .scl _ v => v.dep + 1
  | .pm _ v _ => v.dep + 1
  | _ => 0
inductive PA where
  | ar (a : Tx) | va (v : PV)
def PA.d : PA → D
  | .ar a => .tup [.str [97, 114, 114, 97, 121], .str a]
  | .va v => v.d
def PA.isA : PA → Bool
  | .ar _ => true
  | .va _ => false
inductive PT where
  | cmp (k : Bool) (a b : PV) | nt (k : Bool) (a b : PV) | bo (o k : Bool) (a b : PV)
def cmpD (k : Bool) (a b : PV) : D := .tup [.str (cond k [115, 97, 109, 101] [108, 101, 115, 115]), a.d, b.d]
def PT.d : PT → D
  | .cmp k a b => cmpD k a b
  | .nt k a b => .tup [.str [110, 111, 116], cmpD k a b]
  | .bo o k a b => .tup [.str (cond o [97, 110, 100] [111, 114]), cmpD k a b, .tup [.str [108, 101, 115, 115], a.d, .tup [.str [110, 117, 109, 98, 101, 114], .int 3]]]
inductive PS where
  | set (x : Tx) (v : PV) | push (v : PV) (a : Tx) | store (a : Tx) (v w : PV) | pop (x a : Tx) | pause | call (f : Tx) (as : List PA) (ts : List Tx) | whl (t : PT) (b : List PS) | ifs (t : PT) (b c : List PS) | give (v : PV)
mutual
def PS.d : PS → D
  | .set x v => .tup [.str [115, 101, 116], .tup [.tup [.str x, v.d]]]
  | .push v a => .tup [.str [112, 117, 115, 104], v.d, .str a]
  | .store a v w => .tup [.str [115, 116, 111, 114, 101], .str a, v.d, w.d]
  | .pop x a => .tup [.str [112, 111, 112], .str x, .str a]
  | .pause => .tup [.str [112, 97, 117, 115, 101]]
  | .call f as ts => .tup [.str [99, 97, 108, 108], .str f, .tup (as.map PA.d), .tup (ts.map D.str)]
  | .whl t b => .tup [.str [119, 104, 105, 108, 101], t.d, .tup (PS.ds b)]
  | .ifs t b c => .tup [.str [105, 102], t.d, .tup (PS.ds b), .tup (PS.ds c)]
  | .give v => .tup [.str [103, 105, 118, 101], .tup [v.d]]
def PS.ds : List PS → List D
  | [] => []
  | s :: ss => s.d :: PS.ds ss
end
mutual
/-- the statements in the order of the text -/
def PS.fl : PS → List PS
  | .set x v => [.set x v]
  | .push v a => [.push v a]
  | .store a v w => [.store a v w]
  | .pop x a => [.pop x a]
  | .pause => [.pause]
  | .call f as ts => [.call f as ts]
  | .whl t b => .whl t b :: PS.fls b
  | .ifs t b c => .ifs t b c :: (PS.fls b ++ PS.fls c)
  | .give v => [.give v]
def PS.fls : List PS → List PS
  | [] => []
  | s :: ss => PS.fl s ++ PS.fls ss
end
mutual
def PS.dep : PS → Nat
  | .set x v => 0
  | .push v a => 0
  | .store a v w => 0
  | .pop x a => 0
  | .pause => 0
  | .call f as ts => 0
  | .whl t b => PS.deps b + 1
  | .ifs t b c => max (PS.deps b) (PS.deps c) + 1
  | .give v => 0
def PS.deps : List PS → Nat
  | [] => 0
  | s :: ss => max (PS.dep s) (PS.deps ss)
end
structure PH where
  nm : Tx
  items : List PIt
  places : List PIt
  res : Bool
def intsOf' (l : List PIt) : List Tx := (l.filter fun i => !i.arr).map PIt.nm
def arrsOf (l : List PIt) : List Tx := (l.filter fun i => i.arr).map PIt.nm
abbrev PH.ints (h : PH) : List Tx := intsOf' (h.items ++ h.places)
abbrev PH.arrays (h : PH) : List Tx := arrsOf (h.items ++ h.places)
abbrev resD (b : Bool) : D := .tup (cond b [.str [114, 101, 115, 117, 108, 116]] [])
def PH.d (h : PH) : D := .dct [.s [110, 97, 109, 101], .s [105, 116, 101, 109, 115], .s [112, 108, 97, 99, 101, 115], .s [114, 101, 115, 117, 108, 116, 115], .s [105, 110, 116, 115], .s [97, 114, 114, 97, 121, 115]] [.str h.nm, .lst (h.items.map PIt.d), .lst (h.places.map PIt.d), resD h.res, .lst (h.ints.map D.str), .lst (h.arrays.map D.str)]
def txOk (x : Tx) : Prop := ∀ n ∈ x, n < 128
structure PH.ok (h : PH) : Prop where
  ni : h.items.length < 4
  ni0 : 0 < h.items.length
  np : h.places.length = 4
  na : h.items.countP PIt.arr ≤ 1
  li : 2 ≤ h.ints.length
  la : 2 ≤ h.arrays.length
  dj : ∀ x ∈ h.ints, x ∉ h.arrays
  tx : ∀ i ∈ h.items ++ h.places, txOk i.nm
  ln : ∀ i ∈ h.items ++ h.places, i.nm.length < 100
theorem PH.ok.li1 {h : PH} (o : h.ok) : h.ints.length < 8 := by
  have : h.ints.length ≤ (h.items ++ h.places).length := by
    unfold PH.ints intsOf'
    rw [List.length_map]
    exact List.length_filter_le _ _
  rw [List.length_append, o.np] at this
  have := o.ni
  omega
theorem PH.ok.la1 {h : PH} (o : h.ok) : h.arrays.length < 8 := by
  have : h.arrays.length ≤ (h.items ++ h.places).length := by
    unfold PH.arrays arrsOf
    rw [List.length_map]
    exact List.length_filter_le _ _
  rw [List.length_append, o.np] at this
  have := o.ni
  omega
theorem PH.ok.al {h : PH} (o : h.ok) {a : Tx} (ha : a ∈ h.arrays) : a.length < 100 := by
  obtain ⟨i, hi, rfl⟩ := List.mem_map.mp ha
  exact o.ln i (List.mem_filter.mp hi).1
theorem PH.ok.il {h : PH} (o : h.ok) {a : Tx} (ha : a ∈ h.ints) : a.length < 100 := by
  obtain ⟨i, hi, rfl⟩ := List.mem_map.mp ha
  exact o.ln i (List.mem_filter.mp hi).1
def PA.ok (h : PH) : PA → Prop
  | .ar a => a ∈ h.arrays
  | .va v => v.ok h.ints h.arrays ∧ v.dep ≤ 1
def PT.ok (is as : List Tx) : PT → Prop
  | .cmp _ a b => a.ok is as ∧ b.ok is as ∧ a.dep ≤ 1 ∧ b.dep ≤ 1
  | .nt _ a b => a.ok is as ∧ b.ok is as ∧ a.dep ≤ 1 ∧ b.dep ≤ 1
  | .bo _ _ a b => a.ok is as ∧ b.ok is as ∧ a.dep ≤ 1 ∧ b.dep ≤ 1
def PS.fok (hs : List PH) (h : PH) : PS → Prop
  | .set x v => x ∈ h.ints ∧ v.ok h.ints h.arrays ∧ v.dep ≤ 2
  | .push v a => v.ok h.ints h.arrays ∧ a ∈ h.arrays
  | .store a v w => a ∈ h.arrays ∧ v.ok h.ints h.arrays ∧ w.ok h.ints h.arrays
  | .pop x a => x ∈ h.ints ∧ a ∈ h.arrays
  | .pause => True
  | .call f as ts => ∃ g ∈ hs, g.nm = f ∧ as.map PA.isA = g.items.map PIt.arr ∧ (∀ x ∈ as, x.ok h) ∧ (∀ t ∈ ts, t ∈ h.ints) ∧ ts.length ≤ 1
  | .whl t _ => t.ok h.ints h.arrays
  | .ifs t _ _ => t.ok h.ints h.arrays
  | .give v => v.ok h.ints h.arrays
/-! ### a value -/
theorem value_ok : ∀ (n : Nat) {k : Nat} {R : Store} {is as : List Tx} (cs : List Int) (a b c : Int) (hR : Pu R) (hi : 0 < is.length) (hi1 : is.length < 8) (ha : 0 < as.length) (ha1 : as.length < 8) {Q : W × Store → Prop} (hq : ∀ (v : PV) cs a b c, v.ok is as → v.dep ≤ n → Q (.d v.d, stc cs a b c :: R)),
    Wp (run prog (k + n + 3) f_law_wild_value [.r 0, .d (.lst (is.map D.str)), .d (.lst (as.map D.str)), .d (.int (n : Int))] (stc cs a b c :: R)) Q
  | 0, k, R, is, as, cs, a, b, c, hR, hi, hi1, ha, ha1, Q, hq => by
    refine run_cells (fd := d_law_wild_value) rfl rfl rfl rfl fun F hF => ?_
    unfold d_law_wild_value b_law_wild_value
    (repeat (first | with_reducible refine wps_nil ?_ | with_reducible refine wps_asg ?_ | with_reducible refine wps_ret ?_ | with_reducible refine wps_expr ?_ | with_reducible refine wpe_callW ?_ | with_reducible refine wpe_tup ?_ | with_reducible refine wpe_bin ?_ | with_reducible refine wpe_idx ?_ | with_reducible refine wpe_bi ?_ | with_reducible refine wpe_cmp ?_ | with_reducible refine wpe_mth ?_ | with_reducible refine wpe_sl ?_ | ((with_reducible refine wpe_frzR ?_ ?_); rfl) | with_reducible refine wpe_frz ?_ | with_reducible refine wpe_cel ?_ | with_reducible refine wpe_and2 ?_ | with_reducible refine wps_forW ?_ | with_reducible refine wpi_rng ?_ | with_reducible refine wpi_of ?_ | with_reducible refine wpl_compW ?_ | with_reducible refine wpl_sl ?_ | with_reducible refine wpl_disp ?_ | ((with_reducible refine wpp_no ?_ ?_); rfl) | ((with_reducible refine wpp_some ?_ ?_); rfl) | with_reducible refine wpa_nil ?_ | with_reducible refine wpa_cons ?_ | with_reducible refine wpe_loc ?_ | with_reducible refine wpe_lit ?_ | (with_reducible refine wps_ifW ?_) | ((with_reducible refine wpt_if (u := true) ?_ ?_); rfl; (with_reducible refine wpt_t ?_)) | ((with_reducible refine wpt_if (u := false) ?_ ?_); rfl; (with_reducible refine wpt_f ?_)) | ((with_reducible refine wpe_ok ?_ ?_); rfl) | refine ⟨_, rfl, ?_⟩ | refine ⟨rfl, ?_⟩))
    refine call_of hF (one_ok (.inl rfl) cs a b c hR (by simpa using hi) (by rw [List.length_map]; omega) fun x cs a b c hx => ?_)
    obtain ⟨x, hm, rfl⟩ := List.mem_map.mp hx
    (repeat (first | with_reducible refine wps_nil ?_ | with_reducible refine wps_asg ?_ | with_reducible refine wps_ret ?_ | with_reducible refine wps_expr ?_ | with_reducible refine wpe_callW ?_ | with_reducible refine wpe_tup ?_ | with_reducible refine wpe_bin ?_ | with_reducible refine wpe_idx ?_ | with_reducible refine wpe_bi ?_ | with_reducible refine wpe_cmp ?_ | with_reducible refine wpe_mth ?_ | with_reducible refine wpe_sl ?_ | ((with_reducible refine wpe_frzR ?_ ?_); rfl) | with_reducible refine wpe_frz ?_ | with_reducible refine wpe_cel ?_ | with_reducible refine wpe_and2 ?_ | with_reducible refine wps_forW ?_ | with_reducible refine wpi_rng ?_ | with_reducible refine wpi_of ?_ | with_reducible refine wpl_compW ?_ | with_reducible refine wpl_sl ?_ | with_reducible refine wpl_disp ?_ | ((with_reducible refine wpp_no ?_ ?_); rfl) | ((with_reducible refine wpp_some ?_ ?_); rfl) | with_reducible refine wpa_nil ?_ | with_reducible refine wpa_cons ?_ | with_reducible refine wpe_loc ?_ | with_reducible refine wpe_lit ?_ | (with_reducible refine wps_ifW ?_) | ((with_reducible refine wpt_if (u := true) ?_ ?_); rfl; (with_reducible refine wpt_t ?_)) | ((with_reducible refine wpt_if (u := false) ?_ ?_); rfl; (with_reducible refine wpt_f ?_)) | ((with_reducible refine wpe_ok ?_ ?_); rfl) | refine ⟨_, rfl, ?_⟩ | refine ⟨rfl, ?_⟩))
    refine call_of hF (drawN (most := 11) cs a b c hR (by decide) (by decide) fun z cs a b c hz => ?_)
    (repeat (first | with_reducible refine wps_nil ?_ | with_reducible refine wps_asg ?_ | with_reducible refine wps_ret ?_ | with_reducible refine wps_expr ?_ | with_reducible refine wpe_callW ?_ | with_reducible refine wpe_tup ?_ | with_reducible refine wpe_bin ?_ | with_reducible refine wpe_idx ?_ | with_reducible refine wpe_bi ?_ | with_reducible refine wpe_cmp ?_ | with_reducible refine wpe_mth ?_ | with_reducible refine wpe_sl ?_ | ((with_reducible refine wpe_frzR ?_ ?_); rfl) | with_reducible refine wpe_frz ?_ | with_reducible refine wpe_cel ?_ | with_reducible refine wpe_and2 ?_ | with_reducible refine wps_forW ?_ | with_reducible refine wpi_rng ?_ | with_reducible refine wpi_of ?_ | with_reducible refine wpl_compW ?_ | with_reducible refine wpl_sl ?_ | with_reducible refine wpl_disp ?_ | ((with_reducible refine wpp_no ?_ ?_); rfl) | ((with_reducible refine wpp_some ?_ ?_); rfl) | with_reducible refine wpa_nil ?_ | with_reducible refine wpa_cons ?_ | with_reducible refine wpe_loc ?_ | with_reducible refine wpe_lit ?_ | (with_reducible refine wps_ifW ?_) | ((with_reducible refine wpt_if (u := true) ?_ ?_); rfl; (with_reducible refine wpt_t ?_)) | ((with_reducible refine wpt_if (u := false) ?_ ?_); rfl; (with_reducible refine wpt_f ?_)) | ((with_reducible refine wpe_ok ?_ ?_); rfl) | refine ⟨_, rfl, ?_⟩ | refine ⟨rfl, ?_⟩))
    rcases (show z = 0 ∨ z = 1 ∨ z = 2 ∨ z = 3 ∨ z = 4 ∨ z = 5 ∨ z = 6 ∨ z = 7 ∨ z = 8 ∨ z = 9 ∨ z = 10 by omega) with rfl | rfl | rfl | rfl | rfl | rfl | rfl | rfl | rfl | rfl | rfl
    all_goals
      (repeat (first | with_reducible refine wps_nil ?_ | with_reducible refine wps_asg ?_ | with_reducible refine wps_ret ?_ | with_reducible refine wps_expr ?_ | with_reducible refine wpe_callW ?_ | with_reducible refine wpe_tup ?_ | with_reducible refine wpe_bin ?_ | with_reducible refine wpe_idx ?_ | with_reducible refine wpe_bi ?_ | with_reducible refine wpe_cmp ?_ | with_reducible refine wpe_mth ?_ | with_reducible refine wpe_sl ?_ | ((with_reducible refine wpe_frzR ?_ ?_); rfl) | with_reducible refine wpe_frz ?_ | with_reducible refine wpe_cel ?_ | with_reducible refine wpe_and2 ?_ | with_reducible refine wps_forW ?_ | with_reducible refine wpi_rng ?_ | with_reducible refine wpi_of ?_ | with_reducible refine wpl_compW ?_ | with_reducible refine wpl_sl ?_ | with_reducible refine wpl_disp ?_ | ((with_reducible refine wpp_no ?_ ?_); rfl) | ((with_reducible refine wpp_some ?_ ?_); rfl) | with_reducible refine wpa_nil ?_ | with_reducible refine wpa_cons ?_ | with_reducible refine wpe_loc ?_ | with_reducible refine wpe_lit ?_ | (with_reducible refine wps_ifW ?_) | ((with_reducible refine wpt_if (u := true) ?_ ?_); rfl; (with_reducible refine wpt_t ?_)) | ((with_reducible refine wpt_if (u := false) ?_ ?_); rfl; (with_reducible refine wpt_f ?_)) | ((with_reducible refine wpe_ok ?_ ?_); rfl) | refine ⟨_, rfl, ?_⟩ | refine ⟨rfl, ?_⟩))
      exact done hR (hq (.nam x) _ _ _ _ hm (Nat.zero_le _))
  | n + 1, k, R, is, as, cs, a, b, c, hR, hi, hi1, ha, ha1, Q, hq => by
    have hi2 : 0 < (is.map D.str).length ∧ (is.map D.str).length < 1073741824 := by rw [List.length_map]; omega
    have ha2 : 0 < (as.map D.str).length ∧ (as.map D.str).length < 1073741824 := by rw [List.length_map]; omega
    refine run_cells (fd := d_law_wild_value) rfl rfl rfl rfl fun F hF => ?_
    unfold d_law_wild_value b_law_wild_value
    (repeat (first | with_reducible refine wps_nil ?_ | with_reducible refine wps_asg ?_ | with_reducible refine wps_ret ?_ | with_reducible refine wps_expr ?_ | with_reducible refine wpe_callW ?_ | with_reducible refine wpe_tup ?_ | with_reducible refine wpe_bin ?_ | with_reducible refine wpe_idx ?_ | with_reducible refine wpe_bi ?_ | with_reducible refine wpe_cmp ?_ | with_reducible refine wpe_mth ?_ | with_reducible refine wpe_sl ?_ | ((with_reducible refine wpe_frzR ?_ ?_); rfl) | with_reducible refine wpe_frz ?_ | with_reducible refine wpe_cel ?_ | with_reducible refine wpe_and2 ?_ | with_reducible refine wps_forW ?_ | with_reducible refine wpi_rng ?_ | with_reducible refine wpi_of ?_ | with_reducible refine wpl_compW ?_ | with_reducible refine wpl_sl ?_ | with_reducible refine wpl_disp ?_ | ((with_reducible refine wpp_no ?_ ?_); rfl) | ((with_reducible refine wpp_some ?_ ?_); rfl) | with_reducible refine wpa_nil ?_ | with_reducible refine wpa_cons ?_ | with_reducible refine wpe_loc ?_ | with_reducible refine wpe_lit ?_ | (with_reducible refine wps_ifW ?_) | ((with_reducible refine wpt_if (u := true) ?_ ?_); rfl; (with_reducible refine wpt_t ?_)) | ((with_reducible refine wpt_if (u := false) ?_ ?_); rfl; (with_reducible refine wpt_f ?_)) | ((with_reducible refine wpe_ok ?_ ?_); rfl) | refine ⟨_, rfl, ?_⟩ | refine ⟨rfl, ?_⟩))
    refine call_of hF (one_ok (.inl rfl) cs a b c hR hi2.1 hi2.2 fun x cs a b c hx => ?_)
    obtain ⟨x, hm, rfl⟩ := List.mem_map.mp hx
    (repeat (first | with_reducible refine wps_nil ?_ | with_reducible refine wps_asg ?_ | with_reducible refine wps_ret ?_ | with_reducible refine wps_expr ?_ | with_reducible refine wpe_callW ?_ | with_reducible refine wpe_tup ?_ | with_reducible refine wpe_bin ?_ | with_reducible refine wpe_idx ?_ | with_reducible refine wpe_bi ?_ | with_reducible refine wpe_cmp ?_ | with_reducible refine wpe_mth ?_ | with_reducible refine wpe_sl ?_ | ((with_reducible refine wpe_frzR ?_ ?_); rfl) | with_reducible refine wpe_frz ?_ | with_reducible refine wpe_cel ?_ | with_reducible refine wpe_and2 ?_ | with_reducible refine wps_forW ?_ | with_reducible refine wpi_rng ?_ | with_reducible refine wpi_of ?_ | with_reducible refine wpl_compW ?_ | with_reducible refine wpl_sl ?_ | with_reducible refine wpl_disp ?_ | ((with_reducible refine wpp_no ?_ ?_); rfl) | ((with_reducible refine wpp_some ?_ ?_); rfl) | with_reducible refine wpa_nil ?_ | with_reducible refine wpa_cons ?_ | with_reducible refine wpe_loc ?_ | with_reducible refine wpe_lit ?_ | (with_reducible refine wps_ifW ?_) | ((with_reducible refine wpt_if (u := true) ?_ ?_); rfl; (with_reducible refine wpt_t ?_)) | ((with_reducible refine wpt_if (u := false) ?_ ?_); rfl; (with_reducible refine wpt_f ?_)) | ((with_reducible refine wpe_ok ?_ ?_); rfl) | refine ⟨_, rfl, ?_⟩ | refine ⟨rfl, ?_⟩))
    refine call_of hF (drawN (most := 11) cs a b c hR (by decide) (by decide) fun z cs a b c hz => ?_)
    (repeat (first | with_reducible refine wps_nil ?_ | with_reducible refine wps_asg ?_ | with_reducible refine wps_ret ?_ | with_reducible refine wps_expr ?_ | with_reducible refine wpe_callW ?_ | with_reducible refine wpe_tup ?_ | with_reducible refine wpe_bin ?_ | with_reducible refine wpe_idx ?_ | with_reducible refine wpe_bi ?_ | with_reducible refine wpe_cmp ?_ | with_reducible refine wpe_mth ?_ | with_reducible refine wpe_sl ?_ | ((with_reducible refine wpe_frzR ?_ ?_); rfl) | with_reducible refine wpe_frz ?_ | with_reducible refine wpe_cel ?_ | with_reducible refine wpe_and2 ?_ | with_reducible refine wps_forW ?_ | with_reducible refine wpi_rng ?_ | with_reducible refine wpi_of ?_ | with_reducible refine wpl_compW ?_ | with_reducible refine wpl_sl ?_ | with_reducible refine wpl_disp ?_ | ((with_reducible refine wpp_no ?_ ?_); rfl) | ((with_reducible refine wpp_some ?_ ?_); rfl) | with_reducible refine wpa_nil ?_ | with_reducible refine wpa_cons ?_ | with_reducible refine wpe_loc ?_ | with_reducible refine wpe_lit ?_ | (with_reducible refine wps_ifW ?_) | ((with_reducible refine wpt_if (u := true) ?_ ?_); rfl; (with_reducible refine wpt_t ?_)) | ((with_reducible refine wpt_if (u := false) ?_ ?_); rfl; (with_reducible refine wpt_f ?_)) | ((with_reducible refine wpe_ok ?_ ?_); rfl) | refine ⟨_, rfl, ?_⟩ | refine ⟨rfl, ?_⟩))
    have e : ((n + 1 : Nat) : Int) - 1 = n := by omega
    rcases (show (z = 0 ∨ z = 1 ∨ z = 2 ∨ z = 3) ∨ z = 4 ∨ z = 5 ∨ z = 6 ∨ z = 7 ∨ z = 8 ∨ (z = 9 ∨ z = 10) by omega) with h | rfl | rfl | rfl | rfl | rfl | h
    · rcases h with rfl | rfl | rfl | rfl
      all_goals
        (repeat (first | with_reducible refine wps_nil ?_ | with_reducible refine wps_asg ?_ | with_reducible refine wps_ret ?_ | with_reducible refine wps_expr ?_ | with_reducible refine wpe_callW ?_ | with_reducible refine wpe_tup ?_ | with_reducible refine wpe_bin ?_ | with_reducible refine wpe_idx ?_ | with_reducible refine wpe_bi ?_ | with_reducible refine wpe_cmp ?_ | with_reducible refine wpe_mth ?_ | with_reducible refine wpe_sl ?_ | ((with_reducible refine wpe_frzR ?_ ?_); rfl) | with_reducible refine wpe_frz ?_ | with_reducible refine wpe_cel ?_ | with_reducible refine wpe_and2 ?_ | with_reducible refine wps_forW ?_ | with_reducible refine wpi_rng ?_ | with_reducible refine wpi_of ?_ | with_reducible refine wpl_compW ?_ | with_reducible refine wpl_sl ?_ | with_reducible refine wpl_disp ?_ | ((with_reducible refine wpp_no ?_ ?_); rfl) | ((with_reducible refine wpp_some ?_ ?_); rfl) | with_reducible refine wpa_nil ?_ | with_reducible refine wpa_cons ?_ | with_reducible refine wpe_loc ?_ | with_reducible refine wpe_lit ?_ | (with_reducible refine wps_ifW ?_) | ((with_reducible refine wpt_if (u := true) ?_ ?_); rfl; (with_reducible refine wpt_t ?_)) | ((with_reducible refine wpt_if (u := false) ?_ ?_); rfl; (with_reducible refine wpt_f ?_)) | ((with_reducible refine wpe_ok ?_ ?_); rfl) | refine ⟨_, rfl, ?_⟩ | refine ⟨rfl, ?_⟩))
        exact done hR (hq (.nam x) _ _ _ _ hm (Nat.zero_le _))
    · (repeat (first | with_reducible refine wps_nil ?_ | with_reducible refine wps_asg ?_ | with_reducible refine wps_ret ?_ | with_reducible refine wps_expr ?_ | with_reducible refine wpe_callW ?_ | with_reducible refine wpe_tup ?_ | with_reducible refine wpe_bin ?_ | with_reducible refine wpe_idx ?_ | with_reducible refine wpe_bi ?_ | with_reducible refine wpe_cmp ?_ | with_reducible refine wpe_mth ?_ | with_reducible refine wpe_sl ?_ | ((with_reducible refine wpe_frzR ?_ ?_); rfl) | with_reducible refine wpe_frz ?_ | with_reducible refine wpe_cel ?_ | with_reducible refine wpe_and2 ?_ | with_reducible refine wps_forW ?_ | with_reducible refine wpi_rng ?_ | with_reducible refine wpi_of ?_ | with_reducible refine wpl_compW ?_ | with_reducible refine wpl_sl ?_ | with_reducible refine wpl_disp ?_ | ((with_reducible refine wpp_no ?_ ?_); rfl) | ((with_reducible refine wpp_some ?_ ?_); rfl) | with_reducible refine wpa_nil ?_ | with_reducible refine wpa_cons ?_ | with_reducible refine wpe_loc ?_ | with_reducible refine wpe_lit ?_ | (with_reducible refine wps_ifW ?_) | ((with_reducible refine wpt_if (u := true) ?_ ?_); rfl; (with_reducible refine wpt_t ?_)) | ((with_reducible refine wpt_if (u := false) ?_ ?_); rfl; (with_reducible refine wpt_f ?_)) | ((with_reducible refine wpe_ok ?_ ?_); rfl) | refine ⟨_, rfl, ?_⟩ | refine ⟨rfl, ?_⟩))
      refine call_of hF (drawN (most := 6) cs a b c hR (by decide) (by decide) fun y cs a b c hy => ?_)
      (repeat (first | with_reducible refine wps_nil ?_ | with_reducible refine wps_asg ?_ | with_reducible refine wps_ret ?_ | with_reducible refine wps_expr ?_ | with_reducible refine wpe_callW ?_ | with_reducible refine wpe_tup ?_ | with_reducible refine wpe_bin ?_ | with_reducible refine wpe_idx ?_ | with_reducible refine wpe_bi ?_ | with_reducible refine wpe_cmp ?_ | with_reducible refine wpe_mth ?_ | with_reducible refine wpe_sl ?_ | ((with_reducible refine wpe_frzR ?_ ?_); rfl) | with_reducible refine wpe_frz ?_ | with_reducible refine wpe_cel ?_ | with_reducible refine wpe_and2 ?_ | with_reducible refine wps_forW ?_ | with_reducible refine wpi_rng ?_ | with_reducible refine wpi_of ?_ | with_reducible refine wpl_compW ?_ | with_reducible refine wpl_sl ?_ | with_reducible refine wpl_disp ?_ | ((with_reducible refine wpp_no ?_ ?_); rfl) | ((with_reducible refine wpp_some ?_ ?_); rfl) | with_reducible refine wpa_nil ?_ | with_reducible refine wpa_cons ?_ | with_reducible refine wpe_loc ?_ | with_reducible refine wpe_lit ?_ | (with_reducible refine wps_ifW ?_) | ((with_reducible refine wpt_if (u := true) ?_ ?_); rfl; (with_reducible refine wpt_t ?_)) | ((with_reducible refine wpt_if (u := false) ?_ ?_); rfl; (with_reducible refine wpt_f ?_)) | ((with_reducible refine wpe_ok ?_ ?_); rfl) | refine ⟨_, rfl, ?_⟩ | refine ⟨rfl, ?_⟩))
      exact done hR (hq (.num y) _ _ _ _ ⟨by omega, by omega⟩ (Nat.zero_le _))
    · (repeat (first | with_reducible refine wps_nil ?_ | with_reducible refine wps_asg ?_ | with_reducible refine wps_ret ?_ | with_reducible refine wps_expr ?_ | with_reducible refine wpe_callW ?_ | with_reducible refine wpe_tup ?_ | with_reducible refine wpe_bin ?_ | with_reducible refine wpe_idx ?_ | with_reducible refine wpe_bi ?_ | with_reducible refine wpe_cmp ?_ | with_reducible refine wpe_mth ?_ | with_reducible refine wpe_sl ?_ | ((with_reducible refine wpe_frzR ?_ ?_); rfl) | with_reducible refine wpe_frz ?_ | with_reducible refine wpe_cel ?_ | with_reducible refine wpe_and2 ?_ | with_reducible refine wps_forW ?_ | with_reducible refine wpi_rng ?_ | with_reducible refine wpi_of ?_ | with_reducible refine wpl_compW ?_ | with_reducible refine wpl_sl ?_ | with_reducible refine wpl_disp ?_ | ((with_reducible refine wpp_no ?_ ?_); rfl) | ((with_reducible refine wpp_some ?_ ?_); rfl) | with_reducible refine wpa_nil ?_ | with_reducible refine wpa_cons ?_ | with_reducible refine wpe_loc ?_ | with_reducible refine wpe_lit ?_ | (with_reducible refine wps_ifW ?_) | ((with_reducible refine wpt_if (u := true) ?_ ?_); rfl; (with_reducible refine wpt_t ?_)) | ((with_reducible refine wpt_if (u := false) ?_ ?_); rfl; (with_reducible refine wpt_f ?_)) | ((with_reducible refine wpe_ok ?_ ?_); rfl) | refine ⟨_, rfl, ?_⟩ | refine ⟨rfl, ?_⟩))
      refine call_of hF (one_ok (.inl rfl) cs a b c hR ha2.1 ha2.2 fun y cs a b c hy => ?_)
      obtain ⟨y, hn, rfl⟩ := List.mem_map.mp hy
      (repeat (first | with_reducible refine wps_nil ?_ | with_reducible refine wps_asg ?_ | with_reducible refine wps_ret ?_ | with_reducible refine wps_expr ?_ | with_reducible refine wpe_callW ?_ | with_reducible refine wpe_tup ?_ | with_reducible refine wpe_bin ?_ | with_reducible refine wpe_idx ?_ | with_reducible refine wpe_bi ?_ | with_reducible refine wpe_cmp ?_ | with_reducible refine wpe_mth ?_ | with_reducible refine wpe_sl ?_ | ((with_reducible refine wpe_frzR ?_ ?_); rfl) | with_reducible refine wpe_frz ?_ | with_reducible refine wpe_cel ?_ | with_reducible refine wpe_and2 ?_ | with_reducible refine wps_forW ?_ | with_reducible refine wpi_rng ?_ | with_reducible refine wpi_of ?_ | with_reducible refine wpl_compW ?_ | with_reducible refine wpl_sl ?_ | with_reducible refine wpl_disp ?_ | ((with_reducible refine wpp_no ?_ ?_); rfl) | ((with_reducible refine wpp_some ?_ ?_); rfl) | with_reducible refine wpa_nil ?_ | with_reducible refine wpa_cons ?_ | with_reducible refine wpe_loc ?_ | with_reducible refine wpe_lit ?_ | (with_reducible refine wps_ifW ?_) | ((with_reducible refine wpt_if (u := true) ?_ ?_); rfl; (with_reducible refine wpt_t ?_)) | ((with_reducible refine wpt_if (u := false) ?_ ?_); rfl; (with_reducible refine wpt_f ?_)) | ((with_reducible refine wpe_ok ?_ ?_); rfl) | refine ⟨_, rfl, ?_⟩ | refine ⟨rfl, ?_⟩))
      exact done hR (hq (.len y) _ _ _ _ hn (Nat.zero_le _))
    · (repeat (first | with_reducible refine wps_nil ?_ | with_reducible refine wps_asg ?_ | with_reducible refine wps_ret ?_ | with_reducible refine wps_expr ?_ | with_reducible refine wpe_callW ?_ | with_reducible refine wpe_tup ?_ | with_reducible refine wpe_bin ?_ | with_reducible refine wpe_idx ?_ | with_reducible refine wpe_bi ?_ | with_reducible refine wpe_cmp ?_ | with_reducible refine wpe_mth ?_ | with_reducible refine wpe_sl ?_ | ((with_reducible refine wpe_frzR ?_ ?_); rfl) | with_reducible refine wpe_frz ?_ | with_reducible refine wpe_cel ?_ | with_reducible refine wpe_and2 ?_ | with_reducible refine wps_forW ?_ | with_reducible refine wpi_rng ?_ | with_reducible refine wpi_of ?_ | with_reducible refine wpl_compW ?_ | with_reducible refine wpl_sl ?_ | with_reducible refine wpl_disp ?_ | ((with_reducible refine wpp_no ?_ ?_); rfl) | ((with_reducible refine wpp_some ?_ ?_); rfl) | with_reducible refine wpa_nil ?_ | with_reducible refine wpa_cons ?_ | with_reducible refine wpe_loc ?_ | with_reducible refine wpe_lit ?_ | (with_reducible refine wps_ifW ?_) | ((with_reducible refine wpt_if (u := true) ?_ ?_); rfl; (with_reducible refine wpt_t ?_)) | ((with_reducible refine wpt_if (u := false) ?_ ?_); rfl; (with_reducible refine wpt_f ?_)) | ((with_reducible refine wpe_ok ?_ ?_); rfl) | refine ⟨_, rfl, ?_⟩ | refine ⟨rfl, ?_⟩))
      rw [e]
      refine call_of hF (value_ok n (k := k) cs a b c hR hi hi1 ha ha1 fun v cs a b c hv hd => ?_)
      (repeat (first | with_reducible refine wps_nil ?_ | with_reducible refine wps_asg ?_ | with_reducible refine wps_ret ?_ | with_reducible refine wps_expr ?_ | with_reducible refine wpe_callW ?_ | with_reducible refine wpe_tup ?_ | with_reducible refine wpe_bin ?_ | with_reducible refine wpe_idx ?_ | with_reducible refine wpe_bi ?_ | with_reducible refine wpe_cmp ?_ | with_reducible refine wpe_mth ?_ | with_reducible refine wpe_sl ?_ | ((with_reducible refine wpe_frzR ?_ ?_); rfl) | with_reducible refine wpe_frz ?_ | with_reducible refine wpe_cel ?_ | with_reducible refine wpe_and2 ?_ | with_reducible refine wps_forW ?_ | with_reducible refine wpi_rng ?_ | with_reducible refine wpi_of ?_ | with_reducible refine wpl_compW ?_ | with_reducible refine wpl_sl ?_ | with_reducible refine wpl_disp ?_ | ((with_reducible refine wpp_no ?_ ?_); rfl) | ((with_reducible refine wpp_some ?_ ?_); rfl) | with_reducible refine wpa_nil ?_ | with_reducible refine wpa_cons ?_ | with_reducible refine wpe_loc ?_ | with_reducible refine wpe_lit ?_ | (with_reducible refine wps_ifW ?_) | ((with_reducible refine wpt_if (u := true) ?_ ?_); rfl; (with_reducible refine wpt_t ?_)) | ((with_reducible refine wpt_if (u := false) ?_ ?_); rfl; (with_reducible refine wpt_f ?_)) | ((with_reducible refine wpe_ok ?_ ?_); rfl) | refine ⟨_, rfl, ?_⟩ | refine ⟨rfl, ?_⟩))
      refine call_of hF (one_ok (.inl rfl) cs a b c hR ha2.1 ha2.2 fun y cs a b c hy => ?_)
      obtain ⟨y, hn, rfl⟩ := List.mem_map.mp hy
      (repeat (first | with_reducible refine wps_nil ?_ | with_reducible refine wps_asg ?_ | with_reducible refine wps_ret ?_ | with_reducible refine wps_expr ?_ | with_reducible refine wpe_callW ?_ | with_reducible refine wpe_tup ?_ | with_reducible refine wpe_bin ?_ | with_reducible refine wpe_idx ?_ | with_reducible refine wpe_bi ?_ | with_reducible refine wpe_cmp ?_ | with_reducible refine wpe_mth ?_ | with_reducible refine wpe_sl ?_ | ((with_reducible refine wpe_frzR ?_ ?_); rfl) | with_reducible refine wpe_frz ?_ | with_reducible refine wpe_cel ?_ | with_reducible refine wpe_and2 ?_ | with_reducible refine wps_forW ?_ | with_reducible refine wpi_rng ?_ | with_reducible refine wpi_of ?_ | with_reducible refine wpl_compW ?_ | with_reducible refine wpl_sl ?_ | with_reducible refine wpl_disp ?_ | ((with_reducible refine wpp_no ?_ ?_); rfl) | ((with_reducible refine wpp_some ?_ ?_); rfl) | with_reducible refine wpa_nil ?_ | with_reducible refine wpa_cons ?_ | with_reducible refine wpe_loc ?_ | with_reducible refine wpe_lit ?_ | (with_reducible refine wps_ifW ?_) | ((with_reducible refine wpt_if (u := true) ?_ ?_); rfl; (with_reducible refine wpt_t ?_)) | ((with_reducible refine wpt_if (u := false) ?_ ?_); rfl; (with_reducible refine wpt_f ?_)) | ((with_reducible refine wpe_ok ?_ ?_); rfl) | refine ⟨_, rfl, ?_⟩ | refine ⟨rfl, ?_⟩))
      exact done hR (hq (.itm y v) _ _ _ _ ⟨hn, hv⟩ (Nat.succ_le_succ hd))
    · (repeat (first | with_reducible refine wps_nil ?_ | with_reducible refine wps_asg ?_ | with_reducible refine wps_ret ?_ | with_reducible refine wps_expr ?_ | with_reducible refine wpe_callW ?_ | with_reducible refine wpe_tup ?_ | with_reducible refine wpe_bin ?_ | with_reducible refine wpe_idx ?_ | with_reducible refine wpe_bi ?_ | with_reducible refine wpe_cmp ?_ | with_reducible refine wpe_mth ?_ | with_reducible refine wpe_sl ?_ | ((with_reducible refine wpe_frzR ?_ ?_); rfl) | with_reducible refine wpe_frz ?_ | with_reducible refine wpe_cel ?_ | with_reducible refine wpe_and2 ?_ | with_reducible refine wps_forW ?_ | with_reducible refine wpi_rng ?_ | with_reducible refine wpi_of ?_ | with_reducible refine wpl_compW ?_ | with_reducible refine wpl_sl ?_ | with_reducible refine wpl_disp ?_ | ((with_reducible refine wpp_no ?_ ?_); rfl) | ((with_reducible refine wpp_some ?_ ?_); rfl) | with_reducible refine wpa_nil ?_ | with_reducible refine wpa_cons ?_ | with_reducible refine wpe_loc ?_ | with_reducible refine wpe_lit ?_ | (with_reducible refine wps_ifW ?_) | ((with_reducible refine wpt_if (u := true) ?_ ?_); rfl; (with_reducible refine wpt_t ?_)) | ((with_reducible refine wpt_if (u := false) ?_ ?_); rfl; (with_reducible refine wpt_f ?_)) | ((with_reducible refine wpe_ok ?_ ?_); rfl) | refine ⟨_, rfl, ?_⟩ | refine ⟨rfl, ?_⟩))
      rw [e]
      refine call_of hF (value_ok n (k := k) cs a b c hR hi hi1 ha ha1 fun v cs a b c hv hd => ?_)
      (repeat (first | with_reducible refine wps_nil ?_ | with_reducible refine wps_asg ?_ | with_reducible refine wps_ret ?_ | with_reducible refine wps_expr ?_ | with_reducible refine wpe_callW ?_ | with_reducible refine wpe_tup ?_ | with_reducible refine wpe_bin ?_ | with_reducible refine wpe_idx ?_ | with_reducible refine wpe_bi ?_ | with_reducible refine wpe_cmp ?_ | with_reducible refine wpe_mth ?_ | with_reducible refine wpe_sl ?_ | ((with_reducible refine wpe_frzR ?_ ?_); rfl) | with_reducible refine wpe_frz ?_ | with_reducible refine wpe_cel ?_ | with_reducible refine wpe_and2 ?_ | with_reducible refine wps_forW ?_ | with_reducible refine wpi_rng ?_ | with_reducible refine wpi_of ?_ | with_reducible refine wpl_compW ?_ | with_reducible refine wpl_sl ?_ | with_reducible refine wpl_disp ?_ | ((with_reducible refine wpp_no ?_ ?_); rfl) | ((with_reducible refine wpp_some ?_ ?_); rfl) | with_reducible refine wpa_nil ?_ | with_reducible refine wpa_cons ?_ | with_reducible refine wpe_loc ?_ | with_reducible refine wpe_lit ?_ | (with_reducible refine wps_ifW ?_) | ((with_reducible refine wpt_if (u := true) ?_ ?_); rfl; (with_reducible refine wpt_t ?_)) | ((with_reducible refine wpt_if (u := false) ?_ ?_); rfl; (with_reducible refine wpt_f ?_)) | ((with_reducible refine wpe_ok ?_ ?_); rfl) | refine ⟨_, rfl, ?_⟩ | refine ⟨rfl, ?_⟩))
      refine call_of hF (drawN (most := 2) cs a b c hR (by decide) (by decide) fun y cs a b c hy => ?_)
      rcases (show y = 0 ∨ y = 1 by omega) with rfl | rfl
      · (repeat (first | with_reducible refine wps_nil ?_ | with_reducible refine wps_asg ?_ | with_reducible refine wps_ret ?_ | with_reducible refine wps_expr ?_ | with_reducible refine wpe_callW ?_ | with_reducible refine wpe_tup ?_ | with_reducible refine wpe_bin ?_ | with_reducible refine wpe_idx ?_ | with_reducible refine wpe_bi ?_ | with_reducible refine wpe_cmp ?_ | with_reducible refine wpe_mth ?_ | with_reducible refine wpe_sl ?_ | ((with_reducible refine wpe_frzR ?_ ?_); rfl) | with_reducible refine wpe_frz ?_ | with_reducible refine wpe_cel ?_ | with_reducible refine wpe_and2 ?_ | with_reducible refine wps_forW ?_ | with_reducible refine wpi_rng ?_ | with_reducible refine wpi_of ?_ | with_reducible refine wpl_compW ?_ | with_reducible refine wpl_sl ?_ | with_reducible refine wpl_disp ?_ | ((with_reducible refine wpp_no ?_ ?_); rfl) | ((with_reducible refine wpp_some ?_ ?_); rfl) | with_reducible refine wpa_nil ?_ | with_reducible refine wpa_cons ?_ | with_reducible refine wpe_loc ?_ | with_reducible refine wpe_lit ?_ | (with_reducible refine wps_ifW ?_) | ((with_reducible refine wpt_if (u := true) ?_ ?_); rfl; (with_reducible refine wpt_t ?_)) | ((with_reducible refine wpt_if (u := false) ?_ ?_); rfl; (with_reducible refine wpt_f ?_)) | ((with_reducible refine wpe_ok ?_ ?_); rfl) | refine ⟨_, rfl, ?_⟩ | refine ⟨rfl, ?_⟩))
        refine call_of hF (drawN (most := 4) cs a b c hR (by decide) (by decide) fun y cs a b c hy => ?_)
        (repeat (first | with_reducible refine wps_nil ?_ | with_reducible refine wps_asg ?_ | with_reducible refine wps_ret ?_ | with_reducible refine wps_expr ?_ | with_reducible refine wpe_callW ?_ | with_reducible refine wpe_tup ?_ | with_reducible refine wpe_bin ?_ | with_reducible refine wpe_idx ?_ | with_reducible refine wpe_bi ?_ | with_reducible refine wpe_cmp ?_ | with_reducible refine wpe_mth ?_ | with_reducible refine wpe_sl ?_ | ((with_reducible refine wpe_frzR ?_ ?_); rfl) | with_reducible refine wpe_frz ?_ | with_reducible refine wpe_cel ?_ | with_reducible refine wpe_and2 ?_ | with_reducible refine wps_forW ?_ | with_reducible refine wpi_rng ?_ | with_reducible refine wpi_of ?_ | with_reducible refine wpl_compW ?_ | with_reducible refine wpl_sl ?_ | with_reducible refine wpl_disp ?_ | ((with_reducible refine wpp_no ?_ ?_); rfl) | ((with_reducible refine wpp_some ?_ ?_); rfl) | with_reducible refine wpa_nil ?_ | with_reducible refine wpa_cons ?_ | with_reducible refine wpe_loc ?_ | with_reducible refine wpe_lit ?_ | (with_reducible refine wps_ifW ?_) | ((with_reducible refine wpt_if (u := true) ?_ ?_); rfl; (with_reducible refine wpt_t ?_)) | ((with_reducible refine wpt_if (u := false) ?_ ?_); rfl; (with_reducible refine wpt_f ?_)) | ((with_reducible refine wpe_ok ?_ ?_); rfl) | refine ⟨_, rfl, ?_⟩ | refine ⟨rfl, ?_⟩))
        exact done hR (hq (.quo true v (1 + (y : Int))) _ _ _ _ ⟨hv, by omega, by omega⟩ (Nat.succ_le_succ hd))
      · (repeat (first | with_reducible refine wps_nil ?_ | with_reducible refine wps_asg ?_ | with_reducible refine wps_ret ?_ | with_reducible refine wps_expr ?_ | with_reducible refine wpe_callW ?_ | with_reducible refine wpe_tup ?_ | with_reducible refine wpe_bin ?_ | with_reducible refine wpe_idx ?_ | with_reducible refine wpe_bi ?_ | with_reducible refine wpe_cmp ?_ | with_reducible refine wpe_mth ?_ | with_reducible refine wpe_sl ?_ | ((with_reducible refine wpe_frzR ?_ ?_); rfl) | with_reducible refine wpe_frz ?_ | with_reducible refine wpe_cel ?_ | with_reducible refine wpe_and2 ?_ | with_reducible refine wps_forW ?_ | with_reducible refine wpi_rng ?_ | with_reducible refine wpi_of ?_ | with_reducible refine wpl_compW ?_ | with_reducible refine wpl_sl ?_ | with_reducible refine wpl_disp ?_ | ((with_reducible refine wpp_no ?_ ?_); rfl) | ((with_reducible refine wpp_some ?_ ?_); rfl) | with_reducible refine wpa_nil ?_ | with_reducible refine wpa_cons ?_ | with_reducible refine wpe_loc ?_ | with_reducible refine wpe_lit ?_ | (with_reducible refine wps_ifW ?_) | ((with_reducible refine wpt_if (u := true) ?_ ?_); rfl; (with_reducible refine wpt_t ?_)) | ((with_reducible refine wpt_if (u := false) ?_ ?_); rfl; (with_reducible refine wpt_f ?_)) | ((with_reducible refine wpe_ok ?_ ?_); rfl) | refine ⟨_, rfl, ?_⟩ | refine ⟨rfl, ?_⟩))
        refine call_of hF (drawN (most := 4) cs a b c hR (by decide) (by decide) fun y cs a b c hy => ?_)
        (repeat (first | with_reducible refine wps_nil ?_ | with_reducible refine wps_asg ?_ | with_reducible refine wps_ret ?_ | with_reducible refine wps_expr ?_ | with_reducible refine wpe_callW ?_ | with_reducible refine wpe_tup ?_ | with_reducible refine wpe_bin ?_ | with_reducible refine wpe_idx ?_ | with_reducible refine wpe_bi ?_ | with_reducible refine wpe_cmp ?_ | with_reducible refine wpe_mth ?_ | with_reducible refine wpe_sl ?_ | ((with_reducible refine wpe_frzR ?_ ?_); rfl) | with_reducible refine wpe_frz ?_ | with_reducible refine wpe_cel ?_ | with_reducible refine wpe_and2 ?_ | with_reducible refine wps_forW ?_ | with_reducible refine wpi_rng ?_ | with_reducible refine wpi_of ?_ | with_reducible refine wpl_compW ?_ | with_reducible refine wpl_sl ?_ | with_reducible refine wpl_disp ?_ | ((with_reducible refine wpp_no ?_ ?_); rfl) | ((with_reducible refine wpp_some ?_ ?_); rfl) | with_reducible refine wpa_nil ?_ | with_reducible refine wpa_cons ?_ | with_reducible refine wpe_loc ?_ | with_reducible refine wpe_lit ?_ | (with_reducible refine wps_ifW ?_) | ((with_reducible refine wpt_if (u := true) ?_ ?_); rfl; (with_reducible refine wpt_t ?_)) | ((with_reducible refine wpt_if (u := false) ?_ ?_); rfl; (with_reducible refine wpt_f ?_)) | ((with_reducible refine wpe_ok ?_ ?_); rfl) | refine ⟨_, rfl, ?_⟩ | refine ⟨rfl, ?_⟩))
        exact done hR (hq (.quo false v (1 + (y : Int))) _ _ _ _ ⟨hv, by omega, by omega⟩ (Nat.succ_le_succ hd))
    · (repeat (first | with_reducible refine wps_nil ?_ | with_reducible refine wps_asg ?_ | with_reducible refine wps_ret ?_ | with_reducible refine wps_expr ?_ | with_reducible refine wpe_callW ?_ | with_reducible refine wpe_tup ?_ | with_reducible refine wpe_bin ?_ | with_reducible refine wpe_idx ?_ | with_reducible refine wpe_bi ?_ | with_reducible refine wpe_cmp ?_ | with_reducible refine wpe_mth ?_ | with_reducible refine wpe_sl ?_ | ((with_reducible refine wpe_frzR ?_ ?_); rfl) | with_reducible refine wpe_frz ?_ | with_reducible refine wpe_cel ?_ | with_reducible refine wpe_and2 ?_ | with_reducible refine wps_forW ?_ | with_reducible refine wpi_rng ?_ | with_reducible refine wpi_of ?_ | with_reducible refine wpl_compW ?_ | with_reducible refine wpl_sl ?_ | with_reducible refine wpl_disp ?_ | ((with_reducible refine wpp_no ?_ ?_); rfl) | ((with_reducible refine wpp_some ?_ ?_); rfl) | with_reducible refine wpa_nil ?_ | with_reducible refine wpa_cons ?_ | with_reducible refine wpe_loc ?_ | with_reducible refine wpe_lit ?_ | (with_reducible refine wps_ifW ?_) | ((with_reducible refine wpt_if (u := true) ?_ ?_); rfl; (with_reducible refine wpt_t ?_)) | ((with_reducible refine wpt_if (u := false) ?_ ?_); rfl; (with_reducible refine wpt_f ?_)) | ((with_reducible refine wpe_ok ?_ ?_); rfl) | refine ⟨_, rfl, ?_⟩ | refine ⟨rfl, ?_⟩))
      rw [e]
      refine call_of hF (value_ok n (k := k) cs a b c hR hi hi1 ha ha1 fun v cs a b c hv hd => ?_)
      (repeat (first | with_reducible refine wps_nil ?_ | with_reducible refine wps_asg ?_ | with_reducible refine wps_ret ?_ | with_reducible refine wps_expr ?_ | with_reducible refine wpe_callW ?_ | with_reducible refine wpe_tup ?_ | with_reducible refine wpe_bin ?_ | with_reducible refine wpe_idx ?_ | with_reducible refine wpe_bi ?_ | with_reducible refine wpe_cmp ?_ | with_reducible refine wpe_mth ?_ | with_reducible refine wpe_sl ?_ | ((with_reducible refine wpe_frzR ?_ ?_); rfl) | with_reducible refine wpe_frz ?_ | with_reducible refine wpe_cel ?_ | with_reducible refine wpe_and2 ?_ | with_reducible refine wps_forW ?_ | with_reducible refine wpi_rng ?_ | with_reducible refine wpi_of ?_ | with_reducible refine wpl_compW ?_ | with_reducible refine wpl_sl ?_ | with_reducible refine wpl_disp ?_ | ((with_reducible refine wpp_no ?_ ?_); rfl) | ((with_reducible refine wpp_some ?_ ?_); rfl) | with_reducible refine wpa_nil ?_ | with_reducible refine wpa_cons ?_ | with_reducible refine wpe_loc ?_ | with_reducible refine wpe_lit ?_ | (with_reducible refine wps_ifW ?_) | ((with_reducible refine wpt_if (u := true) ?_ ?_); rfl; (with_reducible refine wpt_t ?_)) | ((with_reducible refine wpt_if (u := false) ?_ ?_); rfl; (with_reducible refine wpt_f ?_)) | ((with_reducible refine wpe_ok ?_ ?_); rfl) | refine ⟨_, rfl, ?_⟩ | refine ⟨rfl, ?_⟩))
      refine call_of hF (drawN (most := 2) cs a b c hR (by decide) (by decide) fun y cs a b c hy => ?_)
      rcases (show y = 0 ∨ y = 1 by omega) with rfl | rfl
      · (repeat (first | with_reducible refine wps_nil ?_ | with_reducible refine wps_asg ?_ | with_reducible refine wps_ret ?_ | with_reducible refine wps_expr ?_ | with_reducible refine wpe_callW ?_ | with_reducible refine wpe_tup ?_ | with_reducible refine wpe_bin ?_ | with_reducible refine wpe_idx ?_ | with_reducible refine wpe_bi ?_ | with_reducible refine wpe_cmp ?_ | with_reducible refine wpe_mth ?_ | with_reducible refine wpe_sl ?_ | ((with_reducible refine wpe_frzR ?_ ?_); rfl) | with_reducible refine wpe_frz ?_ | with_reducible refine wpe_cel ?_ | with_reducible refine wpe_and2 ?_ | with_reducible refine wps_forW ?_ | with_reducible refine wpi_rng ?_ | with_reducible refine wpi_of ?_ | with_reducible refine wpl_compW ?_ | with_reducible refine wpl_sl ?_ | with_reducible refine wpl_disp ?_ | ((with_reducible refine wpp_no ?_ ?_); rfl) | ((with_reducible refine wpp_some ?_ ?_); rfl) | with_reducible refine wpa_nil ?_ | with_reducible refine wpa_cons ?_ | with_reducible refine wpe_loc ?_ | with_reducible refine wpe_lit ?_ | (with_reducible refine wps_ifW ?_) | ((with_reducible refine wpt_if (u := true) ?_ ?_); rfl; (with_reducible refine wpt_t ?_)) | ((with_reducible refine wpt_if (u := false) ?_ ?_); rfl; (with_reducible refine wpt_f ?_)) | ((with_reducible refine wpe_ok ?_ ?_); rfl) | refine ⟨_, rfl, ?_⟩ | refine ⟨rfl, ?_⟩))
        exact done hR (hq (.scl (-1) v) _ _ _ _ ⟨.inl rfl, hv⟩ (Nat.succ_le_succ hd))
      · (repeat (first | with_reducible refine wps_nil ?_ | with_reducible refine wps_asg ?_ | with_reducible refine wps_ret ?_ | with_reducible refine wps_expr ?_ | with_reducible refine wpe_callW ?_ | with_reducible refine wpe_tup ?_ | with_reducible refine wpe_bin ?_ | with_reducible refine wpe_idx ?_ | with_reducible refine wpe_bi ?_ | with_reducible refine wpe_cmp ?_ | with_reducible refine wpe_mth ?_ | with_reducible refine wpe_sl ?_ | ((with_reducible refine wpe_frzR ?_ ?_); rfl) | with_reducible refine wpe_frz ?_ | with_reducible refine wpe_cel ?_ | with_reducible refine wpe_and2 ?_ | with_reducible refine wps_forW ?_ | with_reducible refine wpi_rng ?_ | with_reducible refine wpi_of ?_ | with_reducible refine wpl_compW ?_ | with_reducible refine wpl_sl ?_ | with_reducible refine wpl_disp ?_ | ((with_reducible refine wpp_no ?_ ?_); rfl) | ((with_reducible refine wpp_some ?_ ?_); rfl) | with_reducible refine wpa_nil ?_ | with_reducible refine wpa_cons ?_ | with_reducible refine wpe_loc ?_ | with_reducible refine wpe_lit ?_ | (with_reducible refine wps_ifW ?_) | ((with_reducible refine wpt_if (u := true) ?_ ?_); rfl; (with_reducible refine wpt_t ?_)) | ((with_reducible refine wpt_if (u := false) ?_ ?_); rfl; (with_reducible refine wpt_f ?_)) | ((with_reducible refine wpe_ok ?_ ?_); rfl) | refine ⟨_, rfl, ?_⟩ | refine ⟨rfl, ?_⟩))
        exact done hR (hq (.scl 2 v) _ _ _ _ ⟨.inr rfl, hv⟩ (Nat.succ_le_succ hd))
    · rcases h with rfl | rfl
      all_goals
        (repeat (first | with_reducible refine wps_nil ?_ | with_reducible refine wps_asg ?_ | with_reducible refine wps_ret ?_ | with_reducible refine wps_expr ?_ | with_reducible refine wpe_callW ?_ | with_reducible refine wpe_tup ?_ | with_reducible refine wpe_bin ?_ | with_reducible refine wpe_idx ?_ | with_reducible refine wpe_bi ?_ | with_reducible refine wpe_cmp ?_ | with_reducible refine wpe_mth ?_ | with_reducible refine wpe_sl ?_ | ((with_reducible refine wpe_frzR ?_ ?_); rfl) | with_reducible refine wpe_frz ?_ | with_reducible refine wpe_cel ?_ | with_reducible refine wpe_and2 ?_ | with_reducible refine wps_forW ?_ | with_reducible refine wpi_rng ?_ | with_reducible refine wpi_of ?_ | with_reducible refine wpl_compW ?_ | with_reducible refine wpl_sl ?_ | with_reducible refine wpl_disp ?_ | ((with_reducible refine wpp_no ?_ ?_); rfl) | ((with_reducible refine wpp_some ?_ ?_); rfl) | with_reducible refine wpa_nil ?_ | with_reducible refine wpa_cons ?_ | with_reducible refine wpe_loc ?_ | with_reducible refine wpe_lit ?_ | (with_reducible refine wps_ifW ?_) | ((with_reducible refine wpt_if (u := true) ?_ ?_); rfl; (with_reducible refine wpt_t ?_)) | ((with_reducible refine wpt_if (u := false) ?_ ?_); rfl; (with_reducible refine wpt_f ?_)) | ((with_reducible refine wpe_ok ?_ ?_); rfl) | refine ⟨_, rfl, ?_⟩ | refine ⟨rfl, ?_⟩))
        rw [e]
        refine call_of hF (value_ok n (k := k) cs a b c hR hi hi1 ha ha1 fun v cs a b c hv hd => ?_)
        (repeat (first | with_reducible refine wps_nil ?_ | with_reducible refine wps_asg ?_ | with_reducible refine wps_ret ?_ | with_reducible refine wps_expr ?_ | with_reducible refine wpe_callW ?_ | with_reducible refine wpe_tup ?_ | with_reducible refine wpe_bin ?_ | with_reducible refine wpe_idx ?_ | with_reducible refine wpe_bi ?_ | with_reducible refine wpe_cmp ?_ | with_reducible refine wpe_mth ?_ | with_reducible refine wpe_sl ?_ | ((with_reducible refine wpe_frzR ?_ ?_); rfl) | with_reducible refine wpe_frz ?_ | with_reducible refine wpe_cel ?_ | with_reducible refine wpe_and2 ?_ | with_reducible refine wps_forW ?_ | with_reducible refine wpi_rng ?_ | with_reducible refine wpi_of ?_ | with_reducible refine wpl_compW ?_ | with_reducible refine wpl_sl ?_ | with_reducible refine wpl_disp ?_ | ((with_reducible refine wpp_no ?_ ?_); rfl) | ((with_reducible refine wpp_some ?_ ?_); rfl) | with_reducible refine wpa_nil ?_ | with_reducible refine wpa_cons ?_ | with_reducible refine wpe_loc ?_ | with_reducible refine wpe_lit ?_ | (with_reducible refine wps_ifW ?_) | ((with_reducible refine wpt_if (u := true) ?_ ?_); rfl; (with_reducible refine wpt_t ?_)) | ((with_reducible refine wpt_if (u := false) ?_ ?_); rfl; (with_reducible refine wpt_f ?_)) | ((with_reducible refine wpe_ok ?_ ?_); rfl) | refine ⟨_, rfl, ?_⟩ | refine ⟨rfl, ?_⟩))
        refine call_of hF (drawN (most := 2) cs a b c hR (by decide) (by decide) fun y cs a b c hy => ?_)
        rcases (show y = 0 ∨ y = 1 by omega) with rfl | rfl
        · (repeat (first | with_reducible refine wps_nil ?_ | with_reducible refine wps_asg ?_ | with_reducible refine wps_ret ?_ | with_reducible refine wps_expr ?_ | with_reducible refine wpe_callW ?_ | with_reducible refine wpe_tup ?_ | with_reducible refine wpe_bin ?_ | with_reducible refine wpe_idx ?_ | with_reducible refine wpe_bi ?_ | with_reducible refine wpe_cmp ?_ | with_reducible refine wpe_mth ?_ | with_reducible refine wpe_sl ?_ | ((with_reducible refine wpe_frzR ?_ ?_); rfl) | with_reducible refine wpe_frz ?_ | with_reducible refine wpe_cel ?_ | with_reducible refine wpe_and2 ?_ | with_reducible refine wps_forW ?_ | with_reducible refine wpi_rng ?_ | with_reducible refine wpi_of ?_ | with_reducible refine wpl_compW ?_ | with_reducible refine wpl_sl ?_ | with_reducible refine wpl_disp ?_ | ((with_reducible refine wpp_no ?_ ?_); rfl) | ((with_reducible refine wpp_some ?_ ?_); rfl) | with_reducible refine wpa_nil ?_ | with_reducible refine wpa_cons ?_ | with_reducible refine wpe_loc ?_ | with_reducible refine wpe_lit ?_ | (with_reducible refine wps_ifW ?_) | ((with_reducible refine wpt_if (u := true) ?_ ?_); rfl; (with_reducible refine wpt_t ?_)) | ((with_reducible refine wpt_if (u := false) ?_ ?_); rfl; (with_reducible refine wpt_f ?_)) | ((with_reducible refine wpe_ok ?_ ?_); rfl) | refine ⟨_, rfl, ?_⟩ | refine ⟨rfl, ?_⟩))
          refine call_of hF (drawN (most := 3) cs a b c hR (by decide) (by decide) fun y cs a b c hy => ?_)
          (repeat (first | with_reducible refine wps_nil ?_ | with_reducible refine wps_asg ?_ | with_reducible refine wps_ret ?_ | with_reducible refine wps_expr ?_ | with_reducible refine wpe_callW ?_ | with_reducible refine wpe_tup ?_ | with_reducible refine wpe_bin ?_ | with_reducible refine wpe_idx ?_ | with_reducible refine wpe_bi ?_ | with_reducible refine wpe_cmp ?_ | with_reducible refine wpe_mth ?_ | with_reducible refine wpe_sl ?_ | ((with_reducible refine wpe_frzR ?_ ?_); rfl) | with_reducible refine wpe_frz ?_ | with_reducible refine wpe_cel ?_ | with_reducible refine wpe_and2 ?_ | with_reducible refine wps_forW ?_ | with_reducible refine wpi_rng ?_ | with_reducible refine wpi_of ?_ | with_reducible refine wpl_compW ?_ | with_reducible refine wpl_sl ?_ | with_reducible refine wpl_disp ?_ | ((with_reducible refine wpp_no ?_ ?_); rfl) | ((with_reducible refine wpp_some ?_ ?_); rfl) | with_reducible refine wpa_nil ?_ | with_reducible refine wpa_cons ?_ | with_reducible refine wpe_loc ?_ | with_reducible refine wpe_lit ?_ | (with_reducible refine wps_ifW ?_) | ((with_reducible refine wpt_if (u := true) ?_ ?_); rfl; (with_reducible refine wpt_t ?_)) | ((with_reducible refine wpt_if (u := false) ?_ ?_); rfl; (with_reducible refine wpt_f ?_)) | ((with_reducible refine wpe_ok ?_ ?_); rfl) | refine ⟨_, rfl, ?_⟩ | refine ⟨rfl, ?_⟩))
          exact done hR (hq (.pm true v (1 + (y : Int))) _ _ _ _ ⟨hv, by omega, by omega⟩ (Nat.succ_le_succ hd))
        · (repeat (first | with_reducible refine wps_nil ?_ | with_reducible refine wps_asg ?_ | with_reducible refine wps_ret ?_ | with_reducible refine wps_expr ?_ | with_reducible refine wpe_callW ?_ | with_reducible refine wpe_tup ?_ | with_reducible refine wpe_bin ?_ | with_reducible refine wpe_idx ?_ | with_reducible refine wpe_bi ?_ | with_reducible refine wpe_cmp ?_ | with_reducible refine wpe_mth ?_ | with_reducible refine wpe_sl ?_ | ((with_reducible refine wpe_frzR ?_ ?_); rfl) | with_reducible refine wpe_frz ?_ | with_reducible refine wpe_cel ?_ | with_reducible refine wpe_and2 ?_ | with_reducible refine wps_forW ?_ | with_reducible refine wpi_rng ?_ | with_reducible refine wpi_of ?_ | with_reducible refine wpl_compW ?_ | with_reducible refine wpl_sl ?_ | with_reducible refine wpl_disp ?_ | ((with_reducible refine wpp_no ?_ ?_); rfl) | ((with_reducible refine wpp_some ?_ ?_); rfl) | with_reducible refine wpa_nil ?_ | with_reducible refine wpa_cons ?_ | with_reducible refine wpe_loc ?_ | with_reducible refine wpe_lit ?_ | (with_reducible refine wps_ifW ?_) | ((with_reducible refine wpt_if (u := true) ?_ ?_); rfl; (with_reducible refine wpt_t ?_)) | ((with_reducible refine wpt_if (u := false) ?_ ?_); rfl; (with_reducible refine wpt_f ?_)) | ((with_reducible refine wpe_ok ?_ ?_); rfl) | refine ⟨_, rfl, ?_⟩ | refine ⟨rfl, ?_⟩))
          refine call_of hF (drawN (most := 3) cs a b c hR (by decide) (by decide) fun y cs a b c hy => ?_)
          (repeat (first | with_reducible refine wps_nil ?_ | with_reducible refine wps_asg ?_ | with_reducible refine wps_ret ?_ | with_reducible refine wps_expr ?_ | with_reducible refine wpe_callW ?_ | with_reducible refine wpe_tup ?_ | with_reducible refine wpe_bin ?_ | with_reducible refine wpe_idx ?_ | with_reducible refine wpe_bi ?_ | with_reducible refine wpe_cmp ?_ | with_reducible refine wpe_mth ?_ | with_reducible refine wpe_sl ?_ | ((with_reducible refine wpe_frzR ?_ ?_); rfl) | with_reducible refine wpe_frz ?_ | with_reducible refine wpe_cel ?_ | with_reducible refine wpe_and2 ?_ | with_reducible refine wps_forW ?_ | with_reducible refine wpi_rng ?_ | with_reducible refine wpi_of ?_ | with_reducible refine wpl_compW ?_ | with_reducible refine wpl_sl ?_ | with_reducible refine wpl_disp ?_ | ((with_reducible refine wpp_no ?_ ?_); rfl) | ((with_reducible refine wpp_some ?_ ?_); rfl) | with_reducible refine wpa_nil ?_ | with_reducible refine wpa_cons ?_ | with_reducible refine wpe_loc ?_ | with_reducible refine wpe_lit ?_ | (with_reducible refine wps_ifW ?_) | ((with_reducible refine wpt_if (u := true) ?_ ?_); rfl; (with_reducible refine wpt_t ?_)) | ((with_reducible refine wpt_if (u := false) ?_ ?_); rfl; (with_reducible refine wpt_f ?_)) | ((with_reducible refine wpe_ok ?_ ?_); rfl) | refine ⟨_, rfl, ?_⟩ | refine ⟨rfl, ?_⟩))
          exact done hR (hq (.pm false v (1 + (y : Int))) _ _ _ _ ⟨hv, by omega, by omega⟩ (Nat.succ_le_succ hd))
end TN


namespace TN
theorem perm_inv {α β : Type} {f : α → β} (g : β → α) (hg : ∀ a, g (f a) = a) {es : List β} {l : List α} (h : es.Perm (l.map f)) : ∃ ps : List α, es = ps.map f ∧ ps.Perm l := by
  refine ⟨es.map g, ?_, ?_⟩
  · rw [List.map_map]
    have : ∀ e ∈ es, (f ∘ g) e = e := fun e he => by
      obtain ⟨a, _, rfl⟩ := List.mem_map.mp (h.mem_iff.mp he)
      show f (g (f a)) = f a
      rw [hg]
    calc es = es.map id := by simp
      _ = es.map (f ∘ g) := (List.map_congr_left fun e he => (this e he).symm)
  · have := h.map g
    rw [List.map_map] at this
    have e : (g ∘ f) = id := funext hg
    rwa [e, List.map_id] at this
def unS : D → Tx
  | .str x => x
  | _ => []
def unIt : D → PIt
  | .tup [.str k, .str x] => ⟨decide (k = [97, 114, 114, 97, 121]), x⟩
  | _ => ⟨false, []⟩
theorem unIt_d : ∀ i : PIt, unIt i.d = i
  | ⟨true, x⟩ => rfl
  | ⟨false, x⟩ => rfl
section
variable {Γ : Ctx} {s : Env} {M M1 : Store}
theorem wpe_dcelD {ks vs : Es} {Q : W × Store → Prop} (h : Wp (evEs Γ ks s M) fun r => Wp (evEs Γ vs s r.2) fun r2 => ∃ a, kysOf r.1 = some a ∧ Q (.r r2.2.length, r2.2 ++ [.dct (dputs a r2.1 [] []).1 (dputs a r2.1 [] []).2])) : Wp (evE Γ (.dcel (.disp ks vs)) s M) Q := by
  obtain ⟨⟨ws, M1⟩, e1, h⟩ := h.get
  obtain ⟨⟨us, M2⟩, e2, a, e3, h⟩ := h.get
  have e : evDc Γ (.disp ks vs) s M = .ok (dputs a us [] [], M2) := by
    simp only [evDc, e1, e2, e3, TN.R.bind_ok, TN.R.of_some]
    rfl
  simp only [evE, e, TN.R.bind_ok, wp_ok]
  exact h
/-- a comprehension with a test, over data; the store may hold what it will -/
theorem comp_fltN {bt : Itm → Option Env} {c : Env → Store → TN.R (Bool × Store)} {e : Env → Store → TN.R (W × Store)} {M : Store} (p : D → Bool) (g : D → D) :
    ∀ (ds acc : List D) {Q : List W × Store → Prop}, acc.length + ds.length ≤ 10000 → (∀ d ∈ ds, ∃ s, bt (.one (.d d)) = some s ∧ c s M = .ok (p d, M) ∧ (p d = true → e s M = .ok (.d (g d), M))) → Q ((acc ++ (ds.filter p).map g).map W.d, M) → Wp (compLoop bt c e [] ((ds.map W.d).map Itm.one) M (acc.map W.d)) Q
  | [], acc, Q, _, _, hq => wpc_nil (by simpa using hq)
  | d :: ds, acc, Q, hn, h, hq => by
    simp only [List.length_cons] at hn
    obtain ⟨s, h1, h2, h3⟩ := h d (List.mem_cons_self ..)
    refine wpc_cons h1 ?_
    rw [h2]
    show if p d = true then Wp (e s M) _ else _
    cases hp : p d with
    | true =>
      rw [if_pos rfl, h3 hp]
      refine ⟨by rw [List.length_map]; unfold line; omega, ?_⟩
      have e1 : acc.map W.d ++ [W.d (g d)] = (acc ++ [g d]).map W.d := by simp
      show Wp (compLoop bt c e [] ((ds.map W.d).map Itm.one) M (acc.map W.d ++ [W.d (g d)])) Q
      rw [e1]
      refine comp_fltN p g ds _ (by simp only [List.length_append, List.length_cons, List.length_nil]; omega) (fun x hx => h x (List.mem_cons_of_mem _ hx)) ?_
      rw [List.filter_cons_of_pos hp] at hq
      simpa using hq
    | false =>
      rw [if_neg (by decide)]
      refine comp_fltN p g ds _ (by omega) (fun x hx => h x (List.mem_cons_of_mem _ hx)) ?_
      rw [List.filter_cons_of_neg (by simp [hp])] at hq
      exact hq
end
theorem set_dct {G : Store} {ks : List Ky} {vs : List W} {x : Tx} {w : W} {n : Nat} (hn : n = G.length) (h : ks.length < line) : setSem (G ++ [.dct ks vs]) (.r n) (.d (.str x)) w = some (G ++ [.dct (dputK (.s x) w ks vs).1 (dputK (.s x) w ks vs).2]) := by
  subst hn
  simp only [setSem, get_last, kyOf, Option.bind_some, if_pos h, set_last]
/-- the kind, the name of an item -/
def knd (k : Tx) : D → Bool
  | .tup [.str x, _] => decide (x = k)
  | _ => false
def nmD : D → D
  | .tup [_, y] => y
  | _ => .non
theorem knd_i : ∀ l : List PIt, ((l.map PIt.d).filter (knd [105, 110, 116])).map nmD = (intsOf' l).map D.str
  | [] => rfl
  | ⟨true, x⟩ :: l => knd_i l
  | ⟨false, x⟩ :: l => congrArg (D.str x :: ·) (knd_i l)
theorem knd_a : ∀ l : List PIt, ((l.map PIt.d).filter (knd [97, 114, 114, 97, 121])).map nmD = (arrsOf l).map D.str
  | [] => rfl
  | ⟨true, x⟩ :: l => congrArg (D.str x :: ·) (knd_a l)
  | ⟨false, x⟩ :: l => knd_a l
theorem head_comp {F : Nat → List W → Store → TN.R (W × Store)} {M : Store} {l m : List PIt} {n : Nat} {s : Env} {kt : Tx} (hk : kt = [105, 110, 116] ∨ kt = [97, 114, 114, 97, 121]) (hl : l.length + m.length < 100) (h3 : s[3]? = some (some (.d (.lst (l.map PIt.d))))) (h4 : s[4]? = some (some (.r n))) (hM : M[n]? = some (.lst ((m.map PIt.d).map W.d))) (hs : ∃ a b c d e f g, s = [a, b, c, d, e, f, g, none]) :
    evE (Gm F) (.frz (.comp (.loc 7) (.tu [6, 7]) (.of (.frz (.cat (.loc 3) (.loc 4)))) (.cmp .eq (.loc 6) (.lit (.str kt))))) s M = .ok (.d (.lst ((((l ++ m).map PIt.d).filter (knd kt)).map nmD)), M) := by
  obtain ⟨a1, a2, a3, a4, a5, a6, a7, rfl⟩ := hs
  have e1 : evE (Gm F) (.frz (.cat (.loc 3) (.loc 4))) [a1, a2, a3, a4, a5, a6, a7, none] M = .ok (.d (.lst ((l ++ m).map PIt.d)), M) := by
    simp only [evE, evL, h3, h4, TN.R.bind_ok, catSem, listOf, hM, Option.bind_some]
    rw [if_pos (by simp only [List.length_map]; unfold line; omega)]
    simp only [TN.R.of_some, TN.R.bind_ok]
    rw [← List.map_append, ← List.map_append, toDs_map]
    rfl
  have e2 : evI (Gm F) (.of (.frz (.cat (.loc 3) (.loc 4)))) [a1, a2, a3, a4, a5, a6, a7, none] M = .ok ((((l ++ m).map PIt.d).map W.d).map Itm.one, [], M) := by
    simp only [evI, e1, TN.R.bind_ok]; rfl
  have h : Wp (evE (Gm F) (.frz (.comp (.loc 7) (.tu [6, 7]) (.of (.frz (.cat (.loc 3) (.loc 4)))) (.cmp .eq (.loc 6) (.lit (.str kt))))) [a1, a2, a3, a4, a5, a6, a7, none] M) fun r => r = (.d (.lst ((((l ++ m).map PIt.d).filter (knd kt)).map nmD)), M) := by
    refine wpe_frz (wpl_comp e2 ?_)
    refine comp_fltN (knd kt) nmD ((l ++ m).map PIt.d) [] (by simp only [List.length_map, List.length_append, List.length_nil]; omega) (fun d hd => ?_) ⟨_, toDs_map _, by simp⟩
    obtain ⟨i, hi, rfl⟩ := List.mem_map.mp hd
    obtain ⟨ar, x⟩ := i
    rcases hk with rfl | rfl <;> cases ar <;> exact ⟨_, rfl, rfl, fun _ => rfl⟩
  obtain ⟨r, e, rfl⟩ := h.get
  exact e
/-! ### words apart -/
theorem let_ne : ∀ (st : Fin 26) (t : Fin 6) (i k : Fin 7), i ≠ k → (st.val + i.val * (1 + 2 * t.val)) % 26 ≠ (st.val + k.val * (1 + 2 * t.val)) % 26 := by decide +kernel
theorem wrd_ne {side : Bool} {sh : Tx} {st t i k : Nat} (hs : st < 26) (ht : t < 6) (hi : i < 7) (hk : k < 7) (h : i ≠ k) : wrd side sh st t i ≠ wrd side sh st t k := by
  have := let_ne ⟨st, hs⟩ ⟨t, ht⟩ ⟨i, hi⟩ ⟨k, hk⟩ (by simpa using h)
  simp only at this
  intro e
  apply this
  cases side
  · have : ([97 + (st + i * (1 + 2 * t)) % 26] : List Nat) ++ sh = [97 + (st + k * (1 + 2 * t)) % 26] ++ sh := e
    have := List.append_cancel_right this
    simp only [List.cons.injEq, and_true] at this
    omega
  · have : sh ++ ([97 + (st + i * (1 + 2 * t)) % 26] : List Nat) = sh ++ [97 + (st + k * (1 + 2 * t)) % 26] := e
    have := List.append_cancel_left this
    simp only [List.cons.injEq, and_true] at this
    omega
theorem wrd_ge {side : Bool} {j st t i : Nat} : ∀ n ∈ wrd side (([113, 120, 122] : Tx).take j) st t i, 97 ≤ n ∧ n < 128 := by
  have h1 : ∀ n ∈ (([113, 120, 122] : Tx).take j), 97 ≤ n ∧ n < 128 := fun n hn => by
    have := List.mem_of_mem_take hn
    simp at this
    omega
  intro n hn
  cases side
  · rcases List.mem_append.mp (show n ∈ ([97 + (st + i * (1 + 2 * t)) % 26] : Tx) ++ _ from hn) with h | h
    · simp only [List.mem_singleton] at h; omega
    · exact h1 n h
  · rcases List.mem_append.mp (show n ∈ _ ++ ([97 + (st + i * (1 + 2 * t)) % 26] : Tx) from hn) with h | h
    · exact h1 n h
    · simp only [List.mem_singleton] at h; omega
theorem wrd_len {side : Bool} {j st t i : Nat} : (wrd side (([113, 120, 122] : Tx).take j) st t i).length ≤ 4 := by
  have : (([113, 120, 122] : Tx).take j).length ≤ 3 := by rw [List.length_take]; exact Nat.min_le_right _ _
  cases side
  · show (([97 + (st + i * (1 + 2 * t)) % 26] : Tx) ++ _).length ≤ 4
    rw [List.length_append, List.length_singleton]; omega
  · show (_ ++ ([97 + (st + i * (1 + 2 * t)) % 26] : Tx)).length ≤ 4
    rw [List.length_append, List.length_singleton]; omega
abbrev it3 (w : Nat → Tx) : List PIt := [⟨false, w 0⟩, ⟨false, w 1⟩, ⟨true, w 2⟩]
abbrev pl4 (w : Nat → Tx) : List PIt := [⟨false, w 3⟩, ⟨false, w 4 ++ [46] ++ w 0⟩, ⟨true, w 5⟩, ⟨true, w 6⟩]
theorem head_fine {nm : Tx} {w : Nat → Tx} (hne : ∀ i k, i < 7 → k < 7 → i ≠ k → w i ≠ w k) (hge : ∀ i, ∀ n ∈ w i, 97 ≤ n ∧ n < 128) (hle : ∀ i, (w i).length ≤ 4) {its pls : List PIt} {z : Nat} (hz : z < 3) (hi : its.Perm (it3 w)) (hp : pls.Perm (pl4 w)) (r : Bool) : PH.ok ⟨nm, its.drop z, pls, r⟩ := by
  have li : its.length = 3 := hi.length_eq
  have mi : ∀ i ∈ its.drop z ++ pls, i ∈ it3 w ++ pl4 w := fun i h => by
    rcases List.mem_append.mp h with h | h
    · exact List.mem_append_left _ (hi.mem_iff.mp (List.mem_of_mem_drop h))
    · exact List.mem_append_right _ (hp.mem_iff.mp h)
  have hdot : 46 ∈ w 4 ++ [46] ++ w 0 := by simp
  have nod : ∀ i, w 4 ++ [46] ++ w 0 ≠ w i := fun i e => by
    rw [e] at hdot
    have := (hge i 46 hdot).1
    omega
  have hin : ∀ x ∈ intsOf' (its.drop z ++ pls), x = w 0 ∨ x = w 1 ∨ x = w 3 ∨ x = w 4 ++ [46] ++ w 0 := fun x hx => by
    obtain ⟨i, h1, rfl⟩ := List.mem_map.mp hx
    obtain ⟨h1, h2⟩ := List.mem_filter.mp h1
    have := mi i h1
    simp only [it3, pl4, List.cons_append, List.nil_append, List.mem_cons, List.not_mem_nil, or_false] at this
    rcases this with rfl | rfl | rfl | rfl | rfl | rfl | rfl
    · exact .inl rfl
    · exact .inr (.inl rfl)
    · cases h2
    · exact .inr (.inr (.inl rfl))
    · exact .inr (.inr (.inr rfl))
    · cases h2
    · cases h2
  have har : ∀ x ∈ arrsOf (its.drop z ++ pls), x = w 2 ∨ x = w 5 ∨ x = w 6 := fun x hx => by
    obtain ⟨i, h1, rfl⟩ := List.mem_map.mp hx
    obtain ⟨h1, h2⟩ := List.mem_filter.mp h1
    have := mi i h1
    simp only [it3, pl4, List.cons_append, List.nil_append, List.mem_cons, List.not_mem_nil, or_false] at this
    rcases this with rfl | rfl | rfl | rfl | rfl | rfl | rfl
    · cases h2
    · cases h2
    · exact .inl rfl
    · cases h2
    · cases h2
    · exact .inr (.inl rfl)
    · exact .inr (.inr rfl)
  refine { ni := ?_, ni0 := ?_, np := hp.length_eq, na := ?_, li := ?_, la := ?_, dj := ?_, tx := ?_, ln := ?_ }
  · show (its.drop z).length < 4
    rw [List.length_drop]; omega
  · show 0 < (its.drop z).length
    rw [List.length_drop]; omega
  · show (its.drop z).countP PIt.arr ≤ 1
    exact Nat.le_trans ((List.drop_sublist z its).countP_le) (by rw [hi.countP_eq]; exact Nat.le_refl 1)
  · show 2 ≤ (intsOf' (its.drop z ++ pls)).length
    unfold intsOf'
    rw [List.filter_append, List.map_append, List.length_append]
    have := ((hp.filter fun i => !i.arr).map PIt.nm).length_eq
    rw [this]
    exact Nat.le_add_left 2 _
  · show 2 ≤ (arrsOf (its.drop z ++ pls)).length
    unfold arrsOf
    rw [List.filter_append, List.map_append, List.length_append]
    have := ((hp.filter fun i => i.arr).map PIt.nm).length_eq
    rw [this]
    exact Nat.le_add_left 2 _
  · intro x hx hy
    rcases hin x hx with rfl | rfl | rfl | rfl <;> rcases har _ hy with e | e | e
    all_goals first | exact absurd e (nod _) | exact absurd e (hne _ _ (by decide) (by decide) (by decide))
  · intro i h
    have := mi i h
    have ge2 : ∀ k, txOk (w k) := fun k n hn => (hge k n hn).2
    simp only [it3, pl4, List.cons_append, List.nil_append, List.mem_cons, List.not_mem_nil, or_false] at this
    rcases this with rfl | rfl | rfl | rfl | rfl | rfl | rfl
    · exact ge2 _
    · exact ge2 _
    · exact ge2 _
    · exact ge2 _
    · intro n hn
      rcases List.mem_append.mp hn with h | h
      · rcases List.mem_append.mp h with h | h
        · exact ge2 _ n h
        · simp only [List.mem_singleton] at h; omega
      · exact ge2 _ n h
    · exact ge2 _
    · exact ge2 _
  · intro i h
    have := mi i h
    have hl : ∀ k, (w k).length < 100 := fun k => Nat.lt_of_le_of_lt (hle k) (by decide)
    simp only [it3, pl4, List.cons_append, List.nil_append, List.mem_cons, List.not_mem_nil, or_false] at this
    rcases this with rfl | rfl | rfl | rfl | rfl | rfl | rfl
    · exact hl _
    · exact hl _
    · exact hl _
    · exact hl _
    · show (w 4 ++ [46] ++ w 0).length < 100
      have := hle 4
      have := hle 0
      simp only [List.length_append, List.length_singleton]
      omega
    · exact hl _
    · exact hl _
/-! ### a head -/
abbrev ks4 : List Ky := [.s [110, 97, 109, 101], .s [105, 116, 101, 109, 115], .s [112, 108, 97, 99, 101, 115], .s [114, 101, 115, 117, 108, 116, 115]]
theorem frz_dct {G : Store} {ks : List Ky} {vs : List W} {ds : List D} {lo : Nat} (hl : lo ≤ G.length) (h : frzL (frzW (G ++ [.dct ks vs]) lo (G.length + 1)) vs = some ds) : frzW (G ++ [.dct ks vs]) lo ((G ++ [Cell.dct ks vs]).length + 1) (.r G.length) = some (.dct ks ds) := by
  rw [List.length_append, List.length_singleton]
  unfold frzW
  simp only [get_last]
  rw [if_neg (by omega), h]
  rfl
theorem frz6 {M : Store} {lo k n : Nat} {l : List D} {x1 x2 x3 x4 x5 : D} (hM : M[n]? = some (.lst (l.map W.d))) (hn : lo ≤ n) : frzL (frzW M lo (k + 1)) [.d x1, .d x2, .r n, .d x3, .d x4, .d x5] = some [x1, x2, .lst l, x3, x4, x5] := by
  simp only [frzL, frz_d, frz_r hM hn, Option.bind_some, Option.map_some]
theorem tk {R : Store} {x A B C : Cell} : (x :: ((R ++ [A] ++ [B]) ++ [C])).take (R.length + 1) = x :: R := by
  have : x :: ((R ++ [A] ++ [B]) ++ [C]) = (x :: R) ++ [A, B, C] := by simp
  rw [this]
  exact List.take_left' rfl
theorem head_go {F : Nat → List W → Store → TN.R (W × Store)} {k : Nat} (hF : F = run prog (k + 2)) {R : Store} {nm : Tx} {w : Nat → Tx} (hne : ∀ i k, i < 7 → k < 7 → i ≠ k → w i ≠ w k) (hge : ∀ i, ∀ n ∈ w i, 97 ≤ n ∧ n < 128) (hle : ∀ i, (w i).length ≤ 4)
    (cs : List Int) (a b c : Int) (hR : Pu R) {Q : W × Store → Prop} (hq : ∀ (h : PH) cs a b c, h.ok → h.nm = nm → Q (.d h.d, stc cs a b c :: R)) :
    Wp (evSs (Gm F) (b_law_wild_head.drop 1) [some (.r 0), some (.d (.str nm)), some (.d (.lst [.str (w 0), .str (w 1), .str (w 2), .str (w 3), .str (w 4), .str (w 5), .str (w 6)])), none, none, none, none, none] (stc cs a b c :: R))
      fun r => ∃ w d, r.1 = .ret w ∧ frzW r.2.2 (R.length + 1) (r.2.2.length + 1) w = some d ∧ Pu (r.2.2.take (R.length + 1)) ∧ Q (.d d, r.2.2.take (R.length + 1)) := by
  refine wps_asg (wpe_frz (wpl_sl (wpe_call (ws := [.r 0, .d (.lst ((it3 w).map PIt.d))]) rfl (call_of hF (shuf_ok (ds := (it3 w).map PIt.d) cs a b c hR (show 3 < 1000 by decide) fun es cs a b c he => ?_)))))
  obtain ⟨its, rfl, hi⟩ := perm_inv unIt unIt_d he
  have li : its.length = 3 := hi.length_eq
  refine wpp_some rfl (wpe_call (ws := [.r 0, .d (.int 3)]) rfl (call_of hF (drawN (most := 3) (R := R ++ [.lst ((its.map PIt.d).map W.d)]) cs a b c (pu_app hR (pu_lst _)) (by decide) (by decide) fun z cs a b c hz => ⟨_, rfl, wpp_no rfl ⟨(its.map PIt.d).map W.d, ?_, (its.drop z).map PIt.d, ?_, _, rfl, ?_⟩⟩)))
  · have := get_last (stc cs a b c :: R) (.lst ((its.map PIt.d).map W.d))
    simp only [listOf]
    rw [show (stc cs a b c :: (R ++ [Cell.lst ((its.map PIt.d).map W.d)]))[R.length + 1]? = some (.lst ((its.map PIt.d).map W.d)) from this]
  · rw [cut_drop (by rw [List.length_map]; omega), toDs_map, List.map_drop]
  generalize hA : Cell.lst ((its.map PIt.d).map W.d) = A
  have pA : Pu [A] := by rw [← hA]; exact pu_lst _
  have e4 : ∀ (X Y Z U V : Option W) (M : Store), evE (Gm F) (.bin .add (.bin .add (.idx (.loc 2) (.lit (.int 4))) (.lit (.str [46]))) (.idx (.loc 2) (.lit (.int 0)))) [some (.r 0), some (.d (.str nm)), some (.d (.lst [.str (w 0), .str (w 1), .str (w 2), .str (w 3), .str (w 4), .str (w 5), .str (w 6)])), X, Y, Z, U, V] M = .ok (.d (.str (w 4 ++ [46] ++ w 0)), M) := fun X Y Z U V M => by
    have l4 := hle 4
    have l0 := hle 0
    refine eve_bin (x := .d (.str (w 4 ++ [46]))) (y := .d (.str (w 0))) (M1 := M) (eve_bin (x := .d (.str (w 4))) (y := .d (.str [46])) (M1 := M) rfl rfl ?_) rfl ?_
    · simp only [binSem]
      rw [if_pos (by simp only [List.length_cons, List.length_nil]; unfold line; omega)]
    · simp only [binSem]
      rw [if_pos (by simp only [List.length_append, List.length_cons, List.length_nil]; unfold line; omega)]
  refine wps_asg (wpe_frz (wpl_disp (wpa_cons (wpe_ok (w := .d (.tup [.str [105, 110, 116], .str (w 3)])) rfl ?_))))
  refine wpa_cons (wpe_tup (wpa_cons (wpe_lit (wpa_cons (wpe_ok (e4 _ _ _ _ _ _) ?_)))))
  refine wpa_nil ⟨_, rfl, ?_⟩
  refine wpa_cons (wpe_ok (w := .d (.tup [.str [97, 114, 114, 97, 121], .str (w 5)])) rfl ?_)
  refine wpa_cons (wpe_ok (w := .d (.tup [.str [97, 114, 114, 97, 121], .str (w 6)])) rfl ?_)
  refine wpa_nil ⟨(pl4 w).map PIt.d, rfl, _, rfl, ?_⟩
  refine wps_asg (wpe_call (ws := [.r 0, .d (.lst ((pl4 w).map PIt.d))]) rfl (call_of hF (shuf_ok (R := R ++ [A]) (ds := (pl4 w).map PIt.d) cs a b c (pu_app hR pA) (show 4 < 1000 by decide) fun es cs a b c he => ⟨_, rfl, ?_⟩)))
  obtain ⟨pls, rfl, hp⟩ := perm_inv unIt unIt_d he
  have lp : pls.length = 4 := hp.length_eq
  generalize hB : Cell.lst ((pls.map PIt.d).map W.d) = B
  have pB : Pu [B] := by rw [← hB]; exact pu_lst _
  have gB : ∀ (cs : List Int) (a b c : Int) (C : Cell), (stc cs a b c :: ((R ++ [A] ++ [B]) ++ [C]))[(R ++ [A]).length + 1]? = some (.lst ((pls.map PIt.d).map W.d)) := fun cs a b c C => by
    rw [hB]
    have : stc cs a b c :: ((R ++ [A] ++ [B]) ++ [C]) = (stc cs a b c :: (R ++ [A])) ++ [B, C] := by simp
    rw [this, List.getElem?_append_right (by simp)]
    simp
  have fin : ∀ (r : Bool) (cs : List Int) (a b c : Int), Wp (evSs (Gm F) (b_law_wild_head.drop 5) [some (.r 0), some (.d (.str nm)), some (.d (.lst [.str (w 0), .str (w 1), .str (w 2), .str (w 3), .str (w 4), .str (w 5), .str (w 6)])), some (.d (.lst ((its.drop z).map PIt.d))), some (.r ((R ++ [A]).length + 1)), some (.r ((R ++ [A] ++ [B]).length + 1)), none, none]
      (stc cs a b c :: ((R ++ [A] ++ [B]) ++ [.dct ks4 [.d (.str nm), .d (.lst ((its.drop z).map PIt.d)), .r ((R ++ [A]).length + 1), .d (resD r)]])))
      fun r => ∃ w d, r.1 = .ret w ∧ frzW r.2.2 (R.length + 1) (r.2.2.length + 1) w = some d ∧ Pu (r.2.2.take (R.length + 1)) ∧ Q (.d d, r.2.2.take (R.length + 1)) := fun r cs a b c => by
    have hl : (its.drop z).length + pls.length < 100 := by rw [List.length_drop]; omega
    refine wps_set (head_comp (kt := [105, 110, 116]) (.inl rfl) hl rfl rfl (gB cs a b c _) ⟨_, _, _, _, _, _, _, rfl⟩) rfl rfl (set_dct (G := stc cs a b c :: (R ++ [A] ++ [B])) rfl (by decide)) ?_
    refine wps_set (head_comp (kt := [97, 114, 114, 97, 121]) (.inr rfl) hl rfl rfl (gB cs a b c _) ⟨_, _, _, _, _, _, _, rfl⟩) rfl rfl (set_dct (G := stc cs a b c :: (R ++ [A] ++ [B])) rfl (show 5 < line by decide)) ?_
    rw [knd_i, knd_a]
    refine wps_ret (wpe_loc ⟨_, rfl, _, (PH.mk nm (its.drop z) pls r).d, rfl, ?_, ?_, ?_⟩)
    · exact frz_dct (G := stc cs a b c :: (R ++ [A] ++ [B])) (by simp) (frz6 (gB cs a b c _) (by simp))
    · show Pu ((stc cs a b c :: ((R ++ [A] ++ [B]) ++ [_])).take (R.length + 1))
      rw [tk]; exact pu_stc hR
    · show Q (_, (stc cs a b c :: ((R ++ [A] ++ [B]) ++ [_])).take (R.length + 1))
      rw [tk]; exact hq (PH.mk nm (its.drop z) pls r) cs a b c (head_fine hne hge hle hz hi hp r) rfl
  refine wps_asg (wpe_dcelD (Wp.of_eq (a := ([.d (.str [110, 97, 109, 101]), .d (.str [105, 116, 101, 109, 115]), .d (.str [112, 108, 97, 99, 101, 115]), .d (.str [114, 101, 115, 117, 108, 116, 115])], stc cs a b c :: (R ++ [A] ++ [B]))) rfl ?_))
  refine wpa_cons (wpe_loc ⟨_, rfl, wpa_cons (wpe_loc ⟨_, rfl, wpa_cons (wpe_loc ⟨_, rfl, wpa_cons (wpe_sl (wpe_ok (w := .d (resD true)) rfl (wpp_no rfl (wpp_some rfl (wpe_call (ws := [.r 0, .d (.int 2)]) rfl (call_of hF (drawN (most := 2) (R := R ++ [A] ++ [B]) cs a b c (pu_app (pu_app hR pA) pB) (by decide) (by decide) fun y cs a b c hy => ?_)))))))⟩)⟩)⟩)
  rcases (show y = 0 ∨ y = 1 by omega) with rfl | rfl
  · refine ⟨_, rfl, .d (resD false), rfl, wpa_nil ⟨ks4, rfl, _, rfl, ?_⟩⟩
    exact fin false cs a b c
  · refine ⟨_, rfl, .d (resD true), rfl, wpa_nil ⟨ks4, rfl, _, rfl, ?_⟩⟩
    exact fin true cs a b c
theorem head_ok {k : Nat} {R : Store} {nm : Tx} (cs : List Int) (a b c : Int) (hR : Pu R) {Q : W × Store → Prop} (hq : ∀ (h : PH) cs a b c, h.ok → h.nm = nm → Q (.d h.d, stc cs a b c :: R)) :
    Wp (run prog (k + 3) f_law_wild_head [.r 0, .d (.str nm)] (stc cs a b c :: R)) Q := by
  refine run_cellsF (fd := d_law_wild_head) rfl rfl rfl rfl fun F hF => ?_
  unfold d_law_wild_head b_law_wild_head
  refine wps_asg (wpe_call (ws := [.r 0, .d (.int 7)]) rfl (call_of hF (words_ok (n := 7) (by decide) cs a b c hR fun side j st t cs a b c hj hst ht => ⟨_, rfl, ?_⟩)))
  exact head_go hF (w := fun i => wrd side (([113, 120, 122] : Tx).take j) st t i) (fun i k hi hk h => wrd_ne hst ht hi hk h) (fun i => wrd_ge) (fun i => wrd_len) cs a b c hR hq
end TN


namespace TN
/-! ### a call -/
theorem get_mid {x A B : Cell} {R : Store} : (x :: ((R ++ [A]) ++ [B]))[R.length + 1]? = some A := by
  have : x :: ((R ++ [A]) ++ [B]) = (x :: R) ++ [A, B] := by simp
  rw [this, List.getElem?_append_right (by simp)]
  simp
theorem set_mid {x A A' B : Cell} {R : Store} : (x :: ((R ++ [A]) ++ [B])).set (R.length + 1) A' = x :: ((R ++ [A']) ++ [B]) := by
  have : ∀ R : Store, ((R ++ [A]) ++ [B]).set R.length A' = (R ++ [A']) ++ [B] := fun R => by
    induction R with
    | nil => rfl
    | cons g G ih =>
      show g :: ((G ++ [A]) ++ [B]).set G.length A' = _
      rw [ih]; rfl
  show x :: ((R ++ [A]) ++ [B]).set R.length A' = _
  rw [this]
abbrev tl (ps : List Tx) : Cell := .lst ((ps.map D.str).map W.d)
abbrev al (gv : List PA) : Cell := .lst ((gv.map PA.d).map W.d)
abbrev callS (hd gd : W) (h : PH) (n m : Nat) : Env := [some (.r 0), some hd, some (.d h.d), some gd, some (.r n), some (.r m), none, none, none]
theorem given_go {F : Nat → List W → Store → TN.R (W × Store)} {k : Nat} (hF : F = run prog (k + 4)) {R : Store} {h : PH} {hd gd : W} (ho : h.ok) (hR : Pu R) {Q : TN.Flow × Env × Store → Prop} :
    ∀ (items : List PIt) (ps : List Tx) (gv : List PA) (cs : List Int) (a b c : Int), items.countP PIt.arr ≤ ps.length → (∀ p ∈ ps, p ∈ h.arrays) → gv.length + items.length < 1000 →
      (∀ (ags : List PA) (ps' : List Tx) cs a b c, ags.map PA.isA = items.map PIt.arr → (∀ x ∈ ags, x.ok h) → Q (.nx, callS hd gd h (R.length + 1) (R.length + 2), stc cs a b c :: ((R ++ [tl ps']) ++ [al (gv ++ ags)]))) →
      Wp (forLoop (Tg.tu [7, 8]).put (fun s M => evSs (Gm F) (Ss.cons (.ifs (.cmp .eq (.loc 7) (.lit (.str [97, 114, 114, 97, 121]))) (.cons (.expr (.mth .append (.loc 5) (.cons (.tup (.cons (.lit (.str [97, 114, 114, 97, 121])) (.cons (.mth .pop (.loc 4) .nil) .nil))) .nil))) .nil) (.cons (.expr (.mth .append (.loc 5) (.cons (.call f_law_wild_value (.cons (.loc 0) (.cons (.idx (.loc 2) (.lit (.str [105, 110, 116, 115]))) (.cons (.idx (.loc 2) (.lit (.str [97, 114, 114, 97, 121, 115]))) (.cons (.lit (.int 1)) .nil))))) .nil))) .nil)) .nil) s M) [] (callS hd gd h (R.length + 1) (R.length + 2)) (((items.map PIt.d).map W.d).map Itm.one) (callS hd gd h (R.length + 1) (R.length + 2)) (stc cs a b c :: ((R ++ [tl ps]) ++ [al gv]))) Q
  | [], ps, gv, cs, a, b, c, hc, hp, hn, hq => wpf_nil (by have := hq [] ps cs a b c rfl (fun x hx => by cases hx); rwa [List.append_nil] at this)
  | ⟨true, x⟩ :: items, ps, gv, cs, a, b, c, hc, hp, hn, hq => by
    simp only [List.length_cons] at hn
    rw [List.countP_cons_of_pos (by rfl)] at hc
    obtain ⟨ps0, p, rfl⟩ : ∃ ps0 p, ps = ps0 ++ [p] := by
      rcases List.eq_nil_or_concat ps with rfl | ⟨l, y, e⟩
      · simp at hc
      · exact ⟨l, y, by simpa using e⟩
    have hpop : mtSem (stc cs a b c :: ((R ++ [tl (ps0 ++ [p])]) ++ [al gv])) .pop (.r (R.length + 1)) [] = some (.d (.str p), stc cs a b c :: ((R ++ [tl ps0]) ++ [al gv])) := by
      simp only [mtSem, get_mid, set_mid]
      have e1 : ((ps0 ++ [p]).map D.str).map W.d = ((ps0.map D.str).map W.d) ++ [.d (.str p)] := by simp
      rw [e1, List.getLast?_concat, List.dropLast_concat]
      rfl
    refine wpf_cons (s1 := [some (.r 0), some hd, some (.d h.d), some gd, some (.r (R.length + 1)), some (.r (R.length + 2)), none, some (.d (.str [97, 114, 114, 97, 121])), some (.d (.str x))]) rfl ?_
    refine wps_ifT (M1 := stc cs a b c :: ((R ++ [tl (ps0 ++ [p])]) ++ [al gv])) (x := .d (.bl true)) rfl rfl ?_
    refine wps_expr (wpe_app (G := stc cs a b c :: (R ++ [tl (ps0 ++ [p])])) rfl (by simp) ?_)
    refine wpe_tup (wpa_cons (wpe_lit (wpa_cons (wpe_mth (wpe_loc ⟨_, rfl, ?_, wpa_nil ⟨_, hpop, wpa_nil ⟨[.str [97, 114, 114, 97, 121], .str p], rfl, ?_⟩⟩⟩)))))
    · show (match (stc cs a b c :: ((R ++ [tl (ps0 ++ [p])]) ++ [al gv]))[R.length + 1]? with | some (.lst _) => true | _ => false) = true
      rw [get_mid]
    · refine ⟨stc cs a b c :: (R ++ [tl ps0]), rfl, by simp, by rw [List.length_map, List.length_map]; unfold line; omega, ?_⟩
      refine wps_nil (wps_nil ⟨rfl, ?_⟩)
      have e2 : ((gv.map PA.d).map W.d) ++ [W.d (.tup [.str [97, 114, 114, 97, 121], .str p])] = ((gv ++ [PA.ar p]).map PA.d).map W.d := by simp [PA.d]
      rw [e2]
      refine given_go hF ho hR items ps0 (gv ++ [PA.ar p]) cs a b c (by simp at hc; omega) (fun y hy => hp y (List.mem_append_left _ hy)) (by simp; omega) fun ags ps' cs a b c h1 h2 => ?_
      have := hq (PA.ar p :: ags) ps' cs a b c (by simp [PA.isA, h1]) (fun y hy => by
        rcases List.mem_cons.mp hy with rfl | hy
        · exact hp p (by simp)
        · exact h2 y hy)
      rw [show gv ++ [PA.ar p] ++ ags = gv ++ PA.ar p :: ags by simp]; exact this
  | ⟨false, x⟩ :: items, ps, gv, cs, a, b, c, hc, hp, hn, hq => by
    simp only [List.length_cons] at hn
    rw [List.countP_cons_of_neg (by intro h; cases h)] at hc
    have h1 := ho.li
    have h2 := ho.li1
    have h3 := ho.la
    have h4 := ho.la1
    refine wpf_cons (s1 := [some (.r 0), some hd, some (.d h.d), some gd, some (.r (R.length + 1)), some (.r (R.length + 2)), none, some (.d (.str [105, 110, 116])), some (.d (.str x))]) rfl ?_
    refine wps_ifF (M1 := stc cs a b c :: ((R ++ [tl ps]) ++ [al gv])) (x := .d (.bl false)) rfl rfl ?_
    refine wps_expr (wpe_app (G := stc cs a b c :: (R ++ [tl ps])) rfl (by simp) ?_)
    refine wpe_call (ws := [.r 0, .d (.lst (h.ints.map D.str)), .d (.lst (h.arrays.map D.str)), .d (.int 1)]) (M1 := stc cs a b c :: ((R ++ [tl ps]) ++ [al gv])) rfl (call_of hF (value_ok 1 (k := k) (R := (R ++ [tl ps]) ++ [al gv]) cs a b c (pu_app (pu_app hR (pu_lst _)) (pu_lst _)) (by omega) h2 (by omega) h4 fun v cs a b c hv hd => ?_))
    refine ⟨stc cs a b c :: (R ++ [tl ps]), rfl, by simp, by rw [List.length_map, List.length_map]; unfold line; omega, ?_⟩
    refine wps_nil (wps_nil ⟨rfl, ?_⟩)
    have e2 : ((gv.map PA.d).map W.d) ++ [W.d v.d] = ((gv ++ [PA.va v]).map PA.d).map W.d := by simp [PA.d]
    rw [e2]
    refine given_go hF ho hR items ps (gv ++ [PA.va v]) cs a b c hc hp (by simp; omega) fun ags ps' cs a b c h1 h2 => ?_
    have := hq (PA.va v :: ags) ps' cs a b c (by simp [PA.isA, h1]) (fun y hy => by
      rcases List.mem_cons.mp hy with rfl | hy
      · exact ⟨hv, hd⟩
      · exact h2 y hy)
    rw [show gv ++ [PA.va v] ++ ags = gv ++ PA.va v :: ags by simp]; exact this
theorem call_ok {k : Nat} {R : Store} {hs : List PH} {h : PH} (cs : List Int) (a b c : Int) (hR : Pu R) (hh : ∀ g ∈ hs, g.ok) (ho : h.ok) (hl : 0 < hs.length) (hl1 : hs.length < 1000) {Q : W × Store → Prop}
    (hq : ∀ (f : Tx) (as : List PA) (ts : List Tx) cs a b c, (PS.call f as ts).fok hs h → Q (.d (PS.call f as ts).d, stc cs a b c :: R)) :
    Wp (run prog (k + 5) f_law_wild_call [.r 0, .d (.lst (hs.map PH.d)), .d h.d] (stc cs a b c :: R)) Q := by
  refine run_cellsF (fd := d_law_wild_call) rfl rfl rfl rfl fun F hF => ?_
  unfold d_law_wild_call b_law_wild_call
  refine wps_asg (wpe_call (ws := [.r 0, .d (.lst (hs.map PH.d))]) rfl (call_of hF (one_ok (.inl rfl) cs a b c hR (by rw [List.length_map]; exact hl) (by rw [List.length_map]; omega) fun x cs a b c hx => ⟨_, rfl, ?_⟩)))
  obtain ⟨g, hg, rfl⟩ := List.mem_map.mp hx
  have go := hh g hg
  have h1 := ho.li
  have h2 := ho.li1
  have h3 := ho.la
  have h4 := ho.la1
  refine wps_asg (wpe_call (ws := [.r 0, .d (.lst (h.arrays.map D.str))]) rfl (call_of hF (shuf_ok cs a b c hR (by rw [List.length_map]; omega) fun es cs a b c he => ⟨_, rfl, ?_⟩)))
  obtain ⟨ps, rfl, hp⟩ := perm_inv unS (fun _ => rfl) he
  refine wps_asg (wpe_ok (w := .r (R.length + 2)) (M1 := stc cs a b c :: ((R ++ [tl ps]) ++ [al []])) (by show TN.R.ok (W.r (stc cs a b c :: (R ++ [tl ps])).length, _) = _; simp only [List.length_cons, List.length_append, List.length_nil]; rfl) ⟨callS (.d (.lst (hs.map PH.d))) (.d g.d) h (R.length + 1) (R.length + 2), rfl, ?_⟩)
  refine wps_for (items := ((g.items.map PIt.d).map W.d).map Itm.one) (gs := []) (M1 := stc cs a b c :: ((R ++ [tl ps]) ++ [al []])) rfl ?_
  have hn := go.ni
  refine given_go hF ho hR g.items ps [] cs a b c (by rw [hp.length_eq]; exact Nat.le_trans go.na (by omega)) (fun p hp' => hp.mem_iff.mp hp') (by simp; omega) fun ags ps' cs a b c ha hb => ?_
  rw [List.nil_append]
  have tk2 : ∀ (x A B : Cell), (x :: ((R ++ [A]) ++ [B])).take (R.length + 1) = x :: R := fun x A B => by
    have : x :: ((R ++ [A]) ++ [B]) = (x :: R) ++ [A, B] := by simp
    rw [this]
    exact List.take_left' rfl
  have g2 : ∀ (cs : List Int) (a b c : Int), (stc cs a b c :: ((R ++ [tl ps']) ++ [al ags]))[R.length + 2]? = some (al ags) := fun cs a b c => by
    have := get_last (stc cs a b c :: (R ++ [tl ps'])) (al ags)
    simp only [List.length_cons, List.length_append, List.length_nil] at this
    exact this
  have fin : ∀ (ts : List Tx) (T : Option W) (cs : List Int) (a b c : Int), (∀ t ∈ ts, t ∈ h.ints) → ts.length ≤ 1 → Wp (evSs (Gm F) (b_law_wild_call.drop 6) [some (.r 0), some (.d (.lst (hs.map PH.d))), some (.d h.d), some (.d g.d), some (.r (R.length + 1)), some (.r (R.length + 2)), some (.d (.tup (ts.map D.str))), none, none] (stc cs a b c :: ((R ++ [tl ps']) ++ [al ags])))
      fun r => ∃ w d, r.1 = .ret w ∧ frzW r.2.2 (R.length + 1) (r.2.2.length + 1) w = some d ∧ Pu (r.2.2.take (R.length + 1)) ∧ Q (.d d, r.2.2.take (R.length + 1)) := fun ts T cs a b c h1 h2 => by
    have eg : evE (Gm F) (.bi .tuple (.cons (.loc 5) .nil)) [some (.r 0), some (.d (.lst (hs.map PH.d))), some (.d h.d), some (.d g.d), some (.r (R.length + 1)), some (.r (R.length + 2)), some (.d (.tup (ts.map D.str))), none, none] (stc cs a b c :: ((R ++ [tl ps']) ++ [al ags])) = .ok (.d (.tup (ags.map PA.d)), stc cs a b c :: ((R ++ [tl ps']) ++ [al ags])) := by
      refine eve_bi (eve_one (evE_loc rfl)) ?_
      simp only [biSem, seqOf, g2, Option.bind_some, toDs_map, Option.map_some]
    refine wps_ret (wpe_tup (wpa_cons (wpe_lit (wpa_cons (wpe_ok (w := .d (.str g.nm)) rfl (wpa_cons (wpe_ok eg (wpa_cons (wpe_loc ⟨_, rfl, wpa_nil ⟨_, rfl, ?_⟩⟩)))))))))
    refine ⟨_, (PS.call g.nm ags ts).d, rfl, frz_d _ _ _ _, ?_, ?_⟩
    · show Pu ((stc cs a b c :: ((R ++ [tl ps']) ++ [al ags])).take (R.length + 1))
      rw [tk2]; exact pu_stc hR
    · show Q (_, (stc cs a b c :: ((R ++ [tl ps']) ++ [al ags])).take (R.length + 1))
      rw [tk2]
      exact hq g.nm ags ts cs a b c ⟨g, hg, rfl, ha, hb, h1, h2⟩
  refine wps_asg (wpe_ok (w := .d (.tup [])) rfl ⟨_, rfl, ?_⟩)
  obtain ⟨gn, gi, gp, gr⟩ := g
  cases gr with
  | false =>
    refine wps_ifN (M1 := stc cs a b c :: ((R ++ [tl ps']) ++ [al ags])) (x := .d (.bl false)) rfl rfl ?_
    exact fin [] none cs a b c (fun t ht => by cases ht) (by decide)
  | true =>
    refine wps_ifW (wpe_and2 (wpe_ok (w := .d (.bl true)) (M1 := stc cs a b c :: ((R ++ [tl ps']) ++ [al ags])) rfl ⟨true, rfl, ?_⟩))
    refine wpt_t (wpe_cmp (wpe_call (ws := [.r 0, .d (.int 3)]) rfl (call_of hF (drawN (most := 3) (R := (R ++ [tl ps']) ++ [al ags]) cs a b c (pu_app (pu_app hR (pu_lst _)) (pu_lst _)) (by decide) (by decide) fun y cs a b c hy => ?_))))
    rcases (show y = 0 ∨ y = 1 ∨ y = 2 by omega) with rfl | rfl | rfl
    · refine wpe_lit ⟨false, rfl, false, rfl, ?_⟩
      refine wpt_f (wps_nil ?_)
      exact fin [] none cs a b c (fun t ht => by cases ht) (by decide)
    all_goals
      refine wpe_lit ⟨true, rfl, true, rfl, ?_⟩
      refine wpt_t (wps_asg (wpe_tup (wpa_cons (wpe_call (ws := [.r 0, .d (.lst (h.ints.map D.str))]) rfl (call_of hF (one_ok (.inl rfl) cs a b c (pu_app (pu_app hR (pu_lst _)) (pu_lst _)) (by rw [List.length_map]; omega) (by rw [List.length_map]; omega) fun x cs a b c hx => ?_))))))
      obtain ⟨t, ht, rfl⟩ := List.mem_map.mp hx
      refine wpa_nil ⟨[.str t], rfl, _, rfl, wps_nil ?_⟩
      exact fin [t] none cs a b c (fun u hu => by rw [List.mem_singleton.mp hu]; exact ht) (Nat.le_refl 1)
end TN


namespace TN
/-! ### the budget -/
abbrev bud (z : Int) : Cell := .lst [.d (.int z)]
theorem pu_bud (z : Int) : Pu [bud z] := rfl
section
variable {cs cs0 : List Int} {a b c a0 b0 c0 : Int} {R : Store}
theorem bud_at {z : Int} : (stc cs a b c :: (R ++ [bud z]))[R.length + 1]? = some (bud z) := get_last (stc cs a b c :: R) (bud z)
theorem bud_ix {z : Int} : idxSem (stc cs a b c :: (R ++ [bud z])) (.r (R.length + 1)) (.d (.int 0)) = some (.d (.int z)) := by
  simp only [idxSem, bud_at]
  rfl
theorem bud_set {z y : Int} : setSem (stc cs a b c :: (R ++ [bud z])) (.r (R.length + 1)) (.d (.int 0)) (.d (.int y)) = some (stc cs a b c :: (R ++ [bud y])) := by
  simp only [setSem, bud_at]
  show some ((stc cs a b c :: (R ++ [bud z])).set (R.length + 1) (bud y)) = _
  exact congrArg some (set_last (bud z) (bud y) (stc cs a b c :: R))
theorem doneB {Q : W × Store → Prop} {d : D} {z z0 : Int} (hR : Pu R) (h : Q (.d d, stc cs a b c :: (R ++ [bud z]))) : Pu (stc cs a b c :: (R ++ [bud z])) ∧ ∃ e, W.d d = W.d e ∧ Q (.d e, (stc cs a b c :: (R ++ [bud z])).take (stc cs0 a0 b0 c0 :: (R ++ [bud z0])).length) := by
  refine ⟨pu_cons rfl (pu_app hR rfl), _, rfl, ?_⟩
  rw [List.take_of_length_le (by simp)]
  exact h
end
abbrev PostB (n : Nat) (Q : W × Store → Prop) : TN.Flow × Env × Store → Prop := fun r => Pu r.2.2 ∧ ∃ d, (match r.1 with | .nx => d = .non | .ret w => w = .d d | _ => False) ∧ Q (.d d, r.2.2.take n)
/-! ### a test -/
section
variable {F : Nat → List W → Store → TN.R (W × Store)} {k : Nat} {R : Store} {is as : List Tx} {Q : W × Store → Prop}
theorem test_rest (hF : F = run prog (k + 4)) (kk : Bool) {v w : PV} (hv : v.ok is as) (hw : w.ok is as) (dv : v.dep ≤ 1) (dw : w.dep ≤ 1) (cs : List Int) (a b c z : Int) (hR : Pu R) {cs0 : List Int} {a0 b0 c0 z0 : Int}
    (hq : ∀ (t : PT) cs a b c z, t.ok is as → Q (.d t.d, stc cs a b c :: (R ++ [bud z]))) :
    Wp (evSs (Gm F) (b_law_wild_test.drop 3) [some (.r 0), some (.d (.lst (is.map D.str))), some (.d (.lst (as.map D.str))), some (.r (R.length + 1)), some (.d v.d), some (.d (cmpD kk v w)), none] (stc cs a b c :: (R ++ [bud z]))) (PostB (stc cs0 a0 b0 c0 :: (R ++ [bud z0])).length Q) := by
  refine wps_asg (wpe_call (ws := [.r 0, .d (.int 6)]) rfl (call_of hF (drawN (most := 6) (R := R ++ [bud z]) cs a b c (pu_app hR rfl) (by decide) (by decide) fun y cs a b c hy => ⟨_, rfl, ?_⟩)))
  rcases (show y = 0 ∨ y = 1 ∨ (y = 2 ∨ y = 3 ∨ y = 4 ∨ y = 5) by omega) with rfl | rfl | h
  · refine wps_ifT (M1 := stc cs a b c :: (R ++ [bud z])) (x := .d (.bl true)) rfl rfl ?_
    exact wps_ret (wpe_ok (w := .d (PT.nt kk v w).d) rfl (doneB hR (hq (.nt kk v w) cs a b c z ⟨hv, hw, dv, dw⟩)))
  · refine wps_ifN (M1 := stc cs a b c :: (R ++ [bud z])) (x := .d (.bl false)) rfl rfl ?_
    refine wps_ifW (wpe_and2 (wpe_ok (w := .d (.bl true)) (M1 := stc cs a b c :: (R ++ [bud z])) rfl ⟨true, rfl, ?_⟩))
    refine wpt_t (wpe_cmp (wpe_idx (wpe_loc ⟨_, rfl, wpe_lit ⟨_, bud_ix, wpe_lit ⟨_, rfl, ?_⟩⟩⟩)))
    refine ⟨_, rfl, ?_⟩
    by_cases hz : (0 : Int) < z
    · rw [if_pos (decide_eq_true hz)]
      refine wps_set (M4 := stc cs a b c :: (R ++ [bud (z - 1)])) (eve_bin (M1 := stc cs a b c :: (R ++ [bud z])) (eve_idx (M1 := stc cs a b c :: (R ++ [bud z])) rfl rfl bud_ix) rfl rfl) rfl rfl bud_set ?_
      refine wps_ret (wpe_tup (wpa_cons (wpe_idx (wpe_frzR rfl (wpe_call (ws := [.r 0, .d (.int 2)]) rfl (call_of hF (drawN (most := 2) (R := R ++ [bud (z - 1)]) cs a b c (pu_app hR rfl) (by decide) (by decide) fun y cs a b c hy => ?_)))))))
      rcases (show y = 0 ∨ y = 1 by omega) with rfl | rfl
      · refine ⟨.d (.str [97, 110, 100]), rfl, Wp.of_eq (a := ([.d (cmpD kk v w), .d (.tup [.str [108, 101, 115, 115], v.d, .tup [.str [110, 117, 109, 98, 101, 114], .int 3]])], stc cs a b c :: (R ++ [bud (z - 1)]))) rfl ?_⟩
        exact ⟨_, rfl, doneB hR (hq (.bo true kk v w) cs a b c (z - 1) ⟨hv, hw, dv, dw⟩)⟩
      · refine ⟨.d (.str [111, 114]), rfl, Wp.of_eq (a := ([.d (cmpD kk v w), .d (.tup [.str [108, 101, 115, 115], v.d, .tup [.str [110, 117, 109, 98, 101, 114], .int 3]])], stc cs a b c :: (R ++ [bud (z - 1)]))) rfl ?_⟩
        exact ⟨_, rfl, doneB hR (hq (.bo false kk v w) cs a b c (z - 1) ⟨hv, hw, dv, dw⟩)⟩
    · rw [if_neg (by rw [decide_eq_false hz]; decide)]
      exact wps_nil (wps_ret (wpe_loc ⟨_, rfl, doneB hR (hq (.cmp kk v w) cs a b c z ⟨hv, hw, dv, dw⟩)⟩))
  · rcases h with rfl | rfl | rfl | rfl
    all_goals
      refine wps_ifN (M1 := stc cs a b c :: (R ++ [bud z])) (x := .d (.bl false)) rfl rfl ?_
      refine wps_ifN (M1 := stc cs a b c :: (R ++ [bud z])) (x := .d (.bl false)) rfl rfl ?_
      exact wps_ret (wpe_loc ⟨_, rfl, doneB hR (hq (.cmp kk v w) cs a b c z ⟨hv, hw, dv, dw⟩)⟩)
theorem test_ok (hi : 0 < is.length) (hi1 : is.length < 8) (ha : 0 < as.length) (ha1 : as.length < 8) (cs : List Int) (a b c z : Int) (hR : Pu R)
    (hq : ∀ (t : PT) cs a b c z, t.ok is as → Q (.d t.d, stc cs a b c :: (R ++ [bud z]))) :
    Wp (run prog (k + 5) f_law_wild_test [.r 0, .d (.lst (is.map D.str)), .d (.lst (as.map D.str)), .r (R.length + 1)] (stc cs a b c :: (R ++ [bud z]))) Q := by
  refine run_cells (fd := d_law_wild_test) rfl rfl rfl rfl fun F hF => ?_
  unfold d_law_wild_test b_law_wild_test
  refine wps_set (M4 := stc cs a b c :: (R ++ [bud (z - 1)])) (eve_bin (M1 := stc cs a b c :: (R ++ [bud z])) (eve_idx (M1 := stc cs a b c :: (R ++ [bud z])) rfl rfl bud_ix) rfl rfl) rfl rfl bud_set ?_
  refine wps_asg (wpe_call (ws := [.r 0, .d (.lst (is.map D.str)), .d (.lst (as.map D.str)), .d (.int 1)]) rfl (call_of hF (value_ok 1 (k := k) (R := R ++ [bud (z - 1)]) cs a b c (pu_app hR rfl) hi hi1 ha ha1 fun v cs a b c hv dv => ⟨_, rfl, ?_⟩)))
  refine wps_asg (wpe_tup (wpa_cons (wpe_idx (wpe_frzR rfl (wpe_call (ws := [.r 0, .d (.int 3)]) rfl (call_of hF (drawN (most := 3) (R := R ++ [bud (z - 1)]) cs a b c (pu_app hR rfl) (by decide) (by decide) fun y cs a b c hy => ?_)))))))
  rcases (show (y = 0 ∨ y = 1) ∨ y = 2 by omega) with h | rfl
  · rcases h with rfl | rfl
    all_goals
      refine ⟨.d (.str [108, 101, 115, 115]), rfl, wpa_cons (wpe_loc ⟨_, rfl, wpa_cons (wpe_call (ws := [.r 0, .d (.lst (is.map D.str)), .d (.lst (as.map D.str)), .d (.int 1)]) rfl (call_of hF (value_ok 1 (k := k) (R := R ++ [bud (z - 1)]) cs a b c (pu_app hR rfl) hi hi1 ha ha1 fun w cs a b c hw dw => wpa_nil ⟨_, rfl, _, rfl, ?_⟩)))⟩)⟩
      exact test_rest hF false hv hw dv dw cs a b c (z - 1) hR hq
  · refine ⟨.d (.str [115, 97, 109, 101]), rfl, wpa_cons (wpe_loc ⟨_, rfl, wpa_cons (wpe_call (ws := [.r 0, .d (.lst (is.map D.str)), .d (.lst (as.map D.str)), .d (.int 1)]) rfl (call_of hF (value_ok 1 (k := k) (R := R ++ [bud (z - 1)]) cs a b c (pu_app hR rfl) hi hi1 ha ha1 fun w cs a b c hw dw => wpa_nil ⟨_, rfl, _, rfl, ?_⟩)))⟩)⟩
    exact test_rest hF true hv hw dv dw cs a b c (z - 1) hR hq
end
/-! ### statements, blocks -/
theorem ds_map : ∀ l : List PS, PS.ds l = l.map PS.d
  | [] => rfl
  | s :: l => by rw [PS.ds, ds_map l]; rfl
theorem fls_app : ∀ l m : List PS, PS.fls (l ++ m) = PS.fls l ++ PS.fls m
  | [], m => rfl
  | s :: l, m => by
    show PS.fls (s :: (l ++ m)) = PS.fls (s :: l) ++ PS.fls m
    rw [PS.fls, PS.fls, fls_app l m, List.append_assoc]
theorem deps_app : ∀ l m : List PS, PS.deps (l ++ m) = max (PS.deps l) (PS.deps m)
  | [], m => by rw [List.nil_append, PS.deps]; omega
  | s :: l, m => by
    show PS.deps (s :: (l ++ m)) = max (PS.deps (s :: l)) (PS.deps m)
    rw [PS.deps, PS.deps, deps_app l m]; omega
def LL : Nat → Nat
  | 0 => 1
  | n + 1 => 4 * LL n + 2
structure PS.sok (hs : List PH) (h : PH) (n : Nat) (s : PS) : Prop where
  d : s.dep ≤ n
  f : ∀ u ∈ s.fl, u.fok hs h
  l : s.fl.length ≤ LL n
structure blok (hs : List PH) (h : PH) (n : Nat) (b : List PS) : Prop where
  d : PS.deps b ≤ n
  f : ∀ u ∈ PS.fls b, u.fok hs h
  l : (PS.fls b).length ≤ 2 * LL n
  n : b.length ≤ 2
theorem LL_pos : ∀ n, 1 ≤ LL n
  | 0 => Nat.le_refl 1
  | n + 1 => by unfold LL; omega
def StSpec (hs : List PH) (h : PH) (n : Nat) : Prop := ∀ {k : Nat} {R : Store} (cs : List Int) (a b c z : Int), Pu R → ∀ {Q : W × Store → Prop}, (∀ (s : PS) cs a b c z, s.sok hs h n → Q (.d s.d, stc cs a b c :: (R ++ [bud z]))) →
  Wp (run prog (k + 2 * n + 6) f_law_wild_statement [.r 0, .d (.lst (hs.map PH.d)), .d h.d, .d (.int (n : Int)), .r (R.length + 1)] (stc cs a b c :: (R ++ [bud z]))) Q
def BlSpec (hs : List PH) (h : PH) (n : Nat) : Prop := ∀ {k : Nat} {R : Store} (cs : List Int) (a b c z : Int), Pu R → ∀ {Q : W × Store → Prop}, (∀ (bs : List PS) cs a b c z, blok hs h n bs → Q (.d (.tup (PS.ds bs)), stc cs a b c :: (R ++ [bud z]))) →
  Wp (run prog (k + 2 * n + 7) f_law_wild_block [.r 0, .d (.lst (hs.map PH.d)), .d h.d, .d (.int (n : Int)), .r (R.length + 1)] (stc cs a b c :: (R ++ [bud z]))) Q
theorem block_rest {F : Nat → List W → Store → TN.R (W × Store)} {hs : List PH} {h : PH} {n k : Nat} (hF : F = run prog (k + 2 * n + 6)) {R : Store} (st : StSpec hs h n) {m : Int} {items : List Itm} (hr : rngSem [.d (.int m)] = some items) (hi : items = [.one (.d (.int 0))] ∨ items = [.one (.d (.int 0)), .one (.d (.int 1))])
    (cs : List Int) (a b c z : Int) (hR : Pu R) {cs0 : List Int} {a0 b0 c0 z0 : Int} {Q : W × Store → Prop} (hq : ∀ (bs : List PS) cs a b c z, blok hs h n bs → Q (.d (.tup (PS.ds bs)), stc cs a b c :: (R ++ [bud z]))) {ss : Ss} (hss : ss = b_law_wild_block.drop 1) :
    Wp (evSs (Gm F) ss [some (.r 0), some (.d (.lst (hs.map PH.d))), some (.d h.d), some (.d (.int (n : Int))), some (.r (R.length + 1)), some (.d (.int m)), none] (stc cs a b c :: (R ++ [bud z]))) (PostB (stc cs0 a0 b0 c0 :: (R ++ [bud z0])).length Q) := by
  subst hss
  have e1 : evI (Gm F) (.rng (.cons (.loc 5) .nil)) [some (.r 0), some (.d (.lst (hs.map PH.d))), some (.d h.d), some (.d (.int (n : Int))), some (.r (R.length + 1)), some (.d (.int m)), none] (stc cs a b c :: (R ++ [bud z])) = .ok (items, [], stc cs a b c :: (R ++ [bud z])) := evI_rng (eve_one (evE_loc rfl)) hr
  have p1 := LL_pos n
  refine wps_ret (wpe_bi (wpa_cons (wpe_frz (wpl_comp e1 ?_))))
  rcases hi with rfl | rfl
  · refine wpc_cons rfl ?_
    show Wp (evE (Gm F) (.call f_law_wild_statement _) _ _) _
    refine wpe_call (ws := [.r 0, .d (.lst (hs.map PH.d)), .d h.d, .d (.int (n : Int)), .r (R.length + 1)]) rfl (call_of hF (st (k := k) cs a b c z hR fun s cs a b c z hs => ⟨by decide, wpc_nil ⟨[s.d], rfl, wpa_nil ⟨_, rfl, ?_⟩⟩⟩))
    refine doneB hR (hq [s] cs a b c z { d := ?_, f := ?_, l := ?_, n := (show 1 ≤ 2 by decide) })
    · rw [PS.deps, PS.deps]; have := hs.d; omega
    · rw [PS.fls, PS.fls, List.append_nil]; exact hs.f
    · rw [PS.fls, PS.fls, List.append_nil]; have := hs.l; omega
  · refine wpc_cons rfl ?_
    show Wp (evE (Gm F) (.call f_law_wild_statement _) _ _) _
    refine wpe_call (ws := [.r 0, .d (.lst (hs.map PH.d)), .d h.d, .d (.int (n : Int)), .r (R.length + 1)]) rfl (call_of hF (st (k := k) cs a b c z hR fun s cs a b c z h1 => ⟨by decide, ?_⟩))
    refine wpc_cons rfl ?_
    show Wp (evE (Gm F) (.call f_law_wild_statement _) _ _) _
    refine wpe_call (ws := [.r 0, .d (.lst (hs.map PH.d)), .d h.d, .d (.int (n : Int)), .r (R.length + 1)]) rfl (call_of hF (st (k := k) cs a b c z hR fun s2 cs a b c z h2 => ⟨(show 1 < line by decide), wpc_nil ⟨[s.d, s2.d], rfl, wpa_nil ⟨_, rfl, ?_⟩⟩⟩))
    refine doneB hR (hq [s, s2] cs a b c z { d := ?_, f := ?_, l := ?_, n := Nat.le_refl 2 })
    · rw [PS.deps, PS.deps, PS.deps]; have := h1.d; have := h2.d; omega
    · rw [PS.fls, PS.fls, PS.fls, List.append_nil]
      intro u hu
      rcases List.mem_append.mp hu with hu | hu
      · exact h1.f u hu
      · exact h2.f u hu
    · rw [PS.fls, PS.fls, PS.fls, List.append_nil, List.length_append]; have := h1.l; have := h2.l; omega
def blkI (y : Nat) : List Itm := if y = 0 then [.one (.d (.int 0))] else [.one (.d (.int 0)), .one (.d (.int 1))]
theorem blk_r {y : Nat} (hy : y < 2) : rngSem [.d (.int (1 + (y : Int)))] = some (blkI y) := by
  rcases (show y = 0 ∨ y = 1 by omega) with rfl | rfl <;> rfl
theorem blk_i {y : Nat} (hy : y < 2) : blkI y = [.one (.d (.int 0))] ∨ blkI y = [.one (.d (.int 0)), .one (.d (.int 1))] := by
  rcases (show y = 0 ∨ y = 1 by omega) with rfl | rfl
  · exact .inl rfl
  · exact .inr rfl
theorem block_of {hs : List PH} {h : PH} {n : Nat} (st : StSpec hs h n) : BlSpec hs h n := fun {k R} cs0 a0 b0 c0 z0 hR {Q} hq => by
  refine run_cells (fd := d_law_wild_block) rfl rfl rfl rfl fun F hF => ?_
  show Wp (evSs (Gm F) b_law_wild_block [some (.r 0), some (.d (.lst (hs.map PH.d))), some (.d h.d), some (.d (.int (n : Int))), some (.r (R.length + 1)), none, none] (stc cs0 a0 b0 c0 :: (R ++ [bud z0]))) (PostB (stc cs0 a0 b0 c0 :: (R ++ [bud z0])).length Q)
  have h1 : Wp (evE (Gm F) (.bin .add (.lit (.int 1)) (.call f_law_draw (.cons (.loc 0) (.cons (.lit (.int 2)) .nil)))) [some (.r 0), some (.d (.lst (hs.map PH.d))), some (.d h.d), some (.d (.int (n : Int))), some (.r (R.length + 1)), none, none] (stc cs0 a0 b0 c0 :: (R ++ [bud z0]))) fun r => ∃ y : Nat, y < 2 ∧ r.1 = .d (.int (1 + (y : Int))) ∧ ∃ cs a b c, r.2 = stc cs a b c :: (R ++ [bud z0]) :=
    wpe_bin (wpe_lit (wpe_call (ws := [.r 0, .d (.int 2)]) rfl (call_of hF (drawN (most := 2) (R := R ++ [bud z0]) cs0 a0 b0 c0 (pu_app hR rfl) (by decide) (by decide) fun y cs a b c hy => ⟨_, rfl, y, hy, rfl, _, _, _, _, rfl⟩))))
  refine wps_asg (h1.mono fun r hr => ?_)
  obtain ⟨w, M⟩ := r
  obtain ⟨y, hy, rfl, cs, a, b, c, rfl⟩ := hr
  refine ⟨[some (.r 0), some (.d (.lst (hs.map PH.d))), some (.d h.d), some (.d (.int (n : Int))), some (.r (R.length + 1)), some (.d (.int (1 + (y : Int)))), none], rfl, ?_⟩
  have e2 : (Ss.cons (.ret (.bi .tuple (.cons (.frz (.comp (.call f_law_wild_statement (.cons (.loc 0) (.cons (.loc 1) (.cons (.loc 2) (.cons (.loc 3) (.cons (.loc 4) .nil)))))) (.nm 6) (.rng (.cons (.loc 5) .nil)) .no)) .nil))) .nil) = b_law_wild_block.drop 1 := rfl
  with_reducible exact block_rest hF @st (blk_r hy) (blk_i hy) cs a b c z0 hR (cs0 := cs0) (a0 := a0) (b0 := b0) (c0 := c0) (z0 := z0) hq e2
/-! ### a statement -/
theorem eve_cmp {Γ : Ctx} {s : Env} {M M1 M2 : Store} {o : Cop} {a b : E} {x y : W} {t : Bool} (h1 : evE Γ a s M = .ok (x, M1)) (h2 : evE Γ b s M1 = .ok (y, M2)) (h3 : cmpSem M2 o x y = some t) : evE Γ (.cmp o a b) s M = .ok (.d (.bl t), M2) := by simp only [evE, h1, h2, h3, TN.R.bind_ok, TN.R.of_some]
theorem eve_and3 {Γ : Ctx} {s : Env} {M : Store} {a b c : E} {x y z : Bool} (h1 : evE Γ a s M = .ok (.d (.bl x), M)) (h2 : evE Γ b s M = .ok (.d (.bl y), M)) (h3 : evE Γ c s M = .ok (.d (.bl z), M)) : evE Γ (.and (.cons a (.cons b (.cons c .nil)))) s M = .ok (.d (.bl (x && (y && z))), M) := by
  simp only [evE, evAnd, h1, TN.R.bind_ok, tru, TN.R.of_some]
  cases x
  · rfl
  · simp only [if_true, h2, TN.R.bind_ok, TN.R.of_some]
    cases y
    · rfl
    · simp only [if_true, h3]; rfl
abbrev envS (hs : List PH) (h : PH) (n : Nat) (R : Store) (p : Nat) (x a : Tx) (T B C : Option W) : Env := [some (.r 0), some (.d (.lst (hs.map PH.d))), some (.d h.d), some (.d (.int (n : Int))), some (.r (R.length + 1)), some (.d (.lst (h.ints.map D.str))), some (.d (.lst (h.arrays.map D.str))), some (.d (.int (p : Int))), some (.d (.str x)), some (.d (.str a)), T, B, C]
section
variable {F : Nat → List W → Store → TN.R (W × Store)} {k n : Nat} {R : Store} {hs : List PH} {h : PH} {Q : W × Store → Prop} {p : Nat} {x ar : Tx} {cs0 : List Int} {a0 b0 c0 z0 : Int}
theorem sok_leaf {s : PS} (hd : s.dep = 0) (hf : s.fl = [s]) (ho : s.fok hs h) : s.sok hs h n := { d := by omega, f := by rw [hf]; intro u hu; rw [List.mem_singleton.mp hu]; exact ho, l := by rw [hf]; exact LL_pos n }
theorem stmt_set (hF : F = run prog (k + 5)) (ho : h.ok) (hx : x ∈ h.ints) (cs : List Int) (a b c z : Int) (hR : Pu R) {T B C : Option W} (hq : ∀ (s : PS) cs a b c z, s.sok hs h n → Q (.d s.d, stc cs a b c :: (R ++ [bud z]))) :
    Wp (evSs (Gm F) (b_law_wild_statement.drop 11) (envS hs h n R p x ar T B C) (stc cs a b c :: (R ++ [bud z]))) (PostB (stc cs0 a0 b0 c0 :: (R ++ [bud z0])).length Q) := by
  have h1 := ho.li
  have h2 := ho.li1
  have h3 := ho.la
  have h4 := ho.la1
  refine wps_ret (wpe_tup (wpa_cons (wpe_lit (wpa_cons (wpe_tup (wpa_cons (wpe_tup (wpa_cons (wpe_loc ⟨_, rfl, ?_⟩)))))))))
  refine wpa_cons (wpe_call (ws := [.r 0, .d (.lst (h.ints.map D.str)), .d (.lst (h.arrays.map D.str)), .d (.int 2)]) rfl (call_of hF (value_ok 2 (k := k) (R := R ++ [bud z]) cs a b c (pu_app hR rfl) (by omega) h2 (by omega) h4 fun v cs a b c hv hd => ?_)))
  refine wpa_nil ⟨_, rfl, wpa_nil ⟨_, rfl, wpa_nil ⟨_, rfl, ?_⟩⟩⟩
  exact doneB hR (hq (.set x v) cs a b c z (sok_leaf rfl rfl ⟨hx, hv, hd⟩))
/-- behind the choice of a block -/
theorem stmt_blk (hF : F = run prog (k + 2 * n + 7)) (ho : h.ok) (hp : p = 10 ∨ p = 11 ∨ p = 12 ∨ p = 13) (hx : x ∈ h.ints) (bl : BlSpec hs h n) (cs : List Int) (a b c z : Int) (hR : Pu R) (hz : 0 < z) (hq : ∀ (s : PS) cs a b c z, s.sok hs h (n + 1) → Q (.d s.d, stc cs a b c :: (R ++ [bud z]))) :
    Wp (evSs (Gm F) (b_law_wild_statement.drop 10) (envS hs h (n + 1) R p x ar none none none) (stc cs a b c :: (R ++ [bud z]))) (PostB (stc cs0 a0 b0 c0 :: (R ++ [bud z0])).length Q) := by
  have h1 := ho.li
  have h2 := ho.li1
  have h3 := ho.la
  have h4 := ho.la1
  have e3 : evE (Gm F) (.cmp .gt (.idx (.loc 4) (.lit (.int 0))) (.lit (.int 0))) (envS hs h (n + 1) R p x ar none none none) (stc cs a b c :: (R ++ [bud z])) = .ok (.d (.bl true), stc cs a b c :: (R ++ [bud z])) := by
    refine eve_cmp (M1 := stc cs a b c :: (R ++ [bud z])) (x := .d (.int z)) (y := .d (.int 0)) (eve_idx (M1 := stc cs a b c :: (R ++ [bud z])) rfl rfl bud_ix) rfl ?_
    show some (decide ((0 : Int) < z)) = _
    rw [decide_eq_true hz]
  have e2 : evE (Gm F) (.cmp .gt (.loc 3) (.lit (.int 0))) (envS hs h (n + 1) R p x ar none none none) (stc cs a b c :: (R ++ [bud z])) = .ok (.d (.bl true), stc cs a b c :: (R ++ [bud z])) := by
    refine eve_cmp (M1 := stc cs a b c :: (R ++ [bud z])) (x := .d (.int ((n + 1 : Nat) : Int))) (y := .d (.int 0)) rfl rfl ?_
    show some (decide ((0 : Int) < ((n + 1 : Nat) : Int))) = _
    rw [decide_eq_true (by omega)]
  have e0 : evE (Gm F) (.cmp .gt (.loc 7) (.lit (.int 9))) (envS hs h (n + 1) R p x ar none none none) (stc cs a b c :: (R ++ [bud z])) = .ok (.d (.bl true), stc cs a b c :: (R ++ [bud z])) := by
    rcases hp with rfl | rfl | rfl | rfl <;> rfl
  have e1 := eve_and3 e0 e2 e3
  refine wps_ifT e1 rfl ?_
  refine wps_asg (wpe_call (ws := [.r 0, .d (.lst (h.ints.map D.str)), .d (.lst (h.arrays.map D.str)), .r (R.length + 1)]) rfl (call_of hF (test_ok (k := k + 2 * n + 2) (by omega) h2 (by omega) h4 cs a b c z hR fun t cs a b c z ht => ⟨_, rfl, ?_⟩)))
  have eS : ∀ (T : Option W) (M : Store), evEs (Gm F) (.cons (.loc 0) (.cons (.loc 1) (.cons (.loc 2) (.cons (.bin .sub (.loc 3) (.lit (.int 1))) (.cons (.loc 4) .nil))))) (envS hs h (n + 1) R p x ar T none none) M = .ok ([.r 0, .d (.lst (hs.map PH.d)), .d h.d, .d (.int (n : Int)), .r (R.length + 1)], M) := fun T M => by
    have e : ((n + 1 : Nat) : Int) - 1 = n := by omega
    rw [← e]; rfl
  have eS2 : ∀ (T B C : Option W) (M : Store), evEs (Gm F) (.cons (.loc 0) (.cons (.loc 1) (.cons (.loc 2) (.cons (.bin .sub (.loc 3) (.lit (.int 1))) (.cons (.loc 4) .nil))))) (envS hs h (n + 1) R p x ar T B C) M = .ok ([.r 0, .d (.lst (hs.map PH.d)), .d h.d, .d (.int (n : Int)), .r (R.length + 1)], M) := fun T B C M => by
    have e : ((n + 1 : Nat) : Int) - 1 = n := by omega
    rw [← e]; rfl
  refine wps_asg (wpe_call (eS _ _) (call_of hF (bl (k := k) cs a b c z hR fun bs cs a b c z hb => ⟨_, rfl, ?_⟩)))
  rcases (show p = 10 ∨ p = 11 ∨ (p = 12 ∨ p = 13) by omega) with rfl | rfl | hp
  · refine wps_ifT (M1 := stc cs a b c :: (R ++ [bud z])) (x := .d (.bl true)) rfl rfl ?_
    refine wps_asg (wpe_ok (w := .d (PS.set x (.pm true (.nam x) 1)).d) rfl ⟨_, rfl, ?_⟩)
    refine wps_ret (wpe_tup (wpa_cons (wpe_lit (wpa_cons (wpe_tup (wpa_cons (wpe_lit (wpa_cons (wpe_ok (w := .d (PV.nam x).d) rfl ?_)))))))))
    refine wpa_cons (wpe_tup (wpa_cons (wpe_lit (wpa_cons (wpe_call (ws := [.r 0, .d (.int 5)]) rfl (call_of hF (drawN (most := 5) (R := R ++ [bud z]) cs a b c (pu_app hR rfl) (by decide) (by decide) fun y cs a b c hy => ?_)))))))
    refine wpa_nil ⟨_, rfl, wpa_nil ⟨_, rfl, ?_⟩⟩
    have ec : evE (Gm F) (.bin .add (.loc 11) (.tup (.cons (.loc 12) .nil))) (envS hs h (n + 1) R 10 x ar (some (.d t.d)) (some (.d (.tup (PS.ds bs)))) (some (.d (PS.set x (.pm true (.nam x) 1)).d))) (stc cs a b c :: (R ++ [bud z])) = .ok (.d (.tup (PS.ds (bs ++ [PS.set x (.pm true (.nam x) 1)]))), stc cs a b c :: (R ++ [bud z])) := by
      refine eve_bin (M1 := stc cs a b c :: (R ++ [bud z])) (x := .d (.tup (PS.ds bs))) (y := .d (.tup [(PS.set x (.pm true (.nam x) 1)).d])) rfl rfl ?_
      simp only [binSem]
      have := hb.n
      rw [if_pos (by rw [ds_map, List.length_map, List.length_singleton]; unfold line; omega), ds_map, ds_map, List.map_append]
      rfl
    refine wpa_cons (wpe_ok ec (wpa_nil ⟨_, rfl, ?_⟩))
    refine doneB hR (hq (.whl (.cmp false (.nam x) (.num y)) (bs ++ [PS.set x (.pm true (.nam x) 1)])) cs a b c z { d := ?_, f := ?_, l := ?_ })
    · rw [PS.dep, deps_app, PS.deps, PS.deps, PS.dep]; have := hb.d; omega
    · rw [PS.fl, fls_app]
      intro u hu
      rcases List.mem_cons.mp hu with rfl | hu
      · exact ⟨hx, ⟨by omega, by omega⟩, Nat.zero_le _, Nat.zero_le _⟩
      · rcases List.mem_append.mp hu with hu | hu
        · exact hb.f u hu
        · rw [PS.fls, PS.fls, PS.fl, List.append_nil] at hu
          rw [List.mem_singleton.mp hu]
          exact ⟨hx, ⟨hx, by omega, by omega⟩, (show 1 ≤ 2 by decide)⟩
    · rw [PS.fl, fls_app, List.length_cons, List.length_append, PS.fls, PS.fls, PS.fl, List.append_nil, List.length_singleton]
      have := hb.l
      have := LL_pos n
      unfold LL
      omega
  · refine wps_ifN (M1 := stc cs a b c :: (R ++ [bud z])) (x := .d (.bl false)) rfl rfl ?_
    refine wps_ifT (M1 := stc cs a b c :: (R ++ [bud z])) (x := .d (.bl true)) rfl rfl ?_
    refine wps_ret (wpe_ok (w := .d (PS.whl t bs).d) rfl (doneB hR (hq (.whl t bs) cs a b c z { d := ?_, f := ?_, l := ?_ })))
    · rw [PS.dep]; have := hb.d; omega
    · rw [PS.fl]
      intro u hu
      rcases List.mem_cons.mp hu with rfl | hu
      · exact ht
      · exact hb.f u hu
    · rw [PS.fl, List.length_cons]
      have := hb.l
      unfold LL
      omega
  · rcases hp with rfl | rfl
    all_goals
      refine wps_ifN (M1 := stc cs a b c :: (R ++ [bud z])) (x := .d (.bl false)) rfl rfl ?_
      refine wps_ifN (M1 := stc cs a b c :: (R ++ [bud z])) (x := .d (.bl false)) rfl rfl ?_
      refine wps_ret (wpe_tup (wpa_cons (wpe_lit (wpa_cons (wpe_loc ⟨_, rfl, wpa_cons (wpe_loc ⟨_, rfl, wpa_cons (wpe_call (eS2 _ _ _ _) (call_of hF (bl (k := k) cs a b c z hR fun bs2 cs a b c z hb2 => wpa_nil ⟨_, rfl, ?_⟩)))⟩)⟩)))))
      refine doneB hR (hq (.ifs t bs bs2) cs a b c z { d := ?_, f := ?_, l := ?_ })
      · rw [PS.dep]; have := hb.d; have := hb2.d; omega
      · rw [PS.fl]
        intro u hu
        rcases List.mem_cons.mp hu with rfl | hu
        · exact ht
        · rcases List.mem_append.mp hu with hu | hu
          · exact hb.f u hu
          · exact hb2.f u hu
      · rw [PS.fl, List.length_cons, List.length_append]
        have := hb.l
        have := hb2.l
        unfold LL
        omega
end
end TN


namespace TN
/-! ### a statement -/
section
variable {F : Nat → List W → Store → TN.R (W × Store)} {k n : Nat} {R : Store} {hs : List PH} {h : PH} {Q : W × Store → Prop} {p : Nat} {x ar : Tx} {cs0 : List Int} {a0 b0 c0 z0 : Int}
/-- from the choice of a block on -/
theorem stmt_10 (hF : F = run prog (k + 2 * n + 5)) (ho : h.ok) (hp : p < 14) (hx : x ∈ h.ints) (bl : ∀ m, n = m + 1 → BlSpec hs h m) (cs : List Int) (a b c z : Int) (hR : Pu R) (hq : ∀ (s : PS) cs a b c z, s.sok hs h n → Q (.d s.d, stc cs a b c :: (R ++ [bud z]))) :
    Wp (evSs (Gm F) (b_law_wild_statement.drop 10) (envS hs h n R p x ar none none none) (stc cs a b c :: (R ++ [bud z]))) (PostB (stc cs0 a0 b0 c0 :: (R ++ [bud z0])).length Q) := by
  have e3 : evE (Gm F) (.cmp .gt (.idx (.loc 4) (.lit (.int 0))) (.lit (.int 0))) (envS hs h n R p x ar none none none) (stc cs a b c :: (R ++ [bud z])) = .ok (.d (.bl (decide ((0 : Int) < z))), stc cs a b c :: (R ++ [bud z])) := eve_cmp (M1 := stc cs a b c :: (R ++ [bud z])) (x := .d (.int z)) (y := .d (.int 0)) (eve_idx (M1 := stc cs a b c :: (R ++ [bud z])) rfl rfl bud_ix) rfl rfl
  have e2 : evE (Gm F) (.cmp .gt (.loc 3) (.lit (.int 0))) (envS hs h n R p x ar none none none) (stc cs a b c :: (R ++ [bud z])) = .ok (.d (.bl (decide ((0 : Int) < (n : Int)))), stc cs a b c :: (R ++ [bud z])) := eve_cmp (M1 := stc cs a b c :: (R ++ [bud z])) (x := .d (.int (n : Int))) (y := .d (.int 0)) rfl rfl rfl
  have e0 : evE (Gm F) (.cmp .gt (.loc 7) (.lit (.int 9))) (envS hs h n R p x ar none none none) (stc cs a b c :: (R ++ [bud z])) = .ok (.d (.bl (decide ((9 : Int) < (p : Int)))), stc cs a b c :: (R ++ [bud z])) := eve_cmp (M1 := stc cs a b c :: (R ++ [bud z])) (x := .d (.int (p : Int))) (y := .d (.int 9)) rfl rfl rfl
  have e1 := eve_and3 e0 e2 e3
  by_cases hc : 9 < p ∧ 0 < n ∧ 0 < z
  · obtain ⟨m, rfl⟩ : ∃ m, n = m + 1 := ⟨n - 1, by omega⟩
    have hF2 : F = run prog (k + 2 * m + 7) := hF
    exact stmt_blk (k := k) hF2 ho (by omega) hx (bl m rfl) cs a b c z hR hc.2.2 hq
  · have e4 : (decide ((9 : Int) < (p : Int)) && (decide ((0 : Int) < (n : Int)) && decide ((0 : Int) < z))) = false := by
      cases hb : (decide ((9 : Int) < (p : Int)) && (decide ((0 : Int) < (n : Int)) && decide ((0 : Int) < z))) with
      | false => rfl
      | true =>
        simp only [Bool.and_eq_true, decide_eq_true_eq] at hb
        exact absurd ⟨by omega, by omega, hb.2.2⟩ hc
    rw [e4] at e1
    refine wps_ifN e1 rfl ?_
    exact stmt_set (k := k + 2 * n) hF ho hx cs a b c z hR hq
/-- from the choice of a call on -/
theorem stmt_9 (hF : F = run prog (k + 2 * n + 5)) (hh : ∀ g ∈ hs, g.ok) (hl : 0 < hs.length) (hl1 : hs.length < 1000) (ho : h.ok) (hp : p < 14) (hx : x ∈ h.ints) (bl : ∀ m, n = m + 1 → BlSpec hs h m) (cs : List Int) (a b c z : Int) (hR : Pu R) (hq : ∀ (s : PS) cs a b c z, s.sok hs h n → Q (.d s.d, stc cs a b c :: (R ++ [bud z]))) :
    Wp (evSs (Gm F) (b_law_wild_statement.drop 9) (envS hs h n R p x ar none none none) (stc cs a b c :: (R ++ [bud z]))) (PostB (stc cs0 a0 b0 c0 :: (R ++ [bud z0])).length Q) := by
  refine wps_ifW (wpe_and2 (wpe_ok (w := .d (.bl (decide ((p : Int) < 6)))) (M1 := stc cs a b c :: (R ++ [bud z])) rfl ⟨_, rfl, ?_⟩))
  by_cases h6 : (p : Int) < 6
  · rw [if_pos (decide_eq_true h6)]
    refine wpe_ok (w := .d (.bl (decide ((0 : Int) < (n : Int))))) (M1 := stc cs a b c :: (R ++ [bud z])) rfl ⟨_, rfl, ?_⟩
    by_cases hn : (0 : Int) < (n : Int)
    · rw [if_pos (decide_eq_true hn)]
      refine wps_ret (wpe_call (ws := [.r 0, .d (.lst (hs.map PH.d)), .d h.d]) rfl (call_of hF (call_ok (k := k + 2 * n) (R := R ++ [bud z]) cs a b c (pu_app hR rfl) hh ho hl hl1 fun f as ts cs a b c hf => ?_)))
      exact doneB hR (hq (.call f as ts) cs a b c z (sok_leaf rfl rfl hf))
    · rw [if_neg (by rw [decide_eq_false hn]; decide)]
      exact wps_nil (stmt_10 hF ho hp hx bl cs a b c z hR hq)
  · rw [if_neg (by rw [decide_eq_false h6]; decide)]
    refine ⟨_, rfl, ?_⟩
    rw [if_neg (by rw [decide_eq_false h6]; decide)]
    exact wps_nil (stmt_10 hF ho hp hx bl cs a b c z hR hq)
theorem stmt_step (hh : ∀ g ∈ hs, g.ok) (hl : 0 < hs.length) (hl1 : hs.length < 1000) (ho : h.ok) (bl : ∀ m, n = m + 1 → BlSpec hs h m) : StSpec hs h n := fun {k R} cs0 a0 b0 c0 z0 hR {Q} hq => by
  have h1 := ho.li
  have h2 := ho.li1
  have h3 := ho.la
  have h4 := ho.la1
  refine run_cells (fd := d_law_wild_statement) rfl rfl rfl rfl fun F hF => ?_
  unfold d_law_wild_statement b_law_wild_statement
  refine wps_asg (wpe_ok (w := .d (.lst (h.ints.map D.str))) rfl ⟨_, rfl, ?_⟩)
  refine wps_asg (wpe_ok (w := .d (.lst (h.arrays.map D.str))) rfl ⟨_, rfl, ?_⟩)
  refine wps_asg (wpe_call (ws := [.r 0, .d (.int 14)]) rfl (call_of hF (drawN (most := 14) (R := R ++ [bud z0]) cs0 a0 b0 c0 (pu_app hR rfl) (by decide) (by decide) fun p cs a b c hp => ⟨_, rfl, ?_⟩)))
  refine wps_asg (wpe_call (ws := [.r 0, .d (.lst (h.ints.map D.str))]) rfl (call_of hF (one_ok (.inl rfl) cs a b c (pu_app hR rfl) (by rw [List.length_map]; omega) (by rw [List.length_map]; omega) fun d cs a b c hd => ⟨_, rfl, ?_⟩)))
  obtain ⟨x, hx, rfl⟩ := List.mem_map.mp hd
  refine wps_asg (wpe_call (ws := [.r 0, .d (.lst (h.arrays.map D.str))]) rfl (call_of hF (one_ok (.inl rfl) cs a b c (pu_app hR rfl) (by rw [List.length_map]; omega) (by rw [List.length_map]; omega) fun d cs a b c hd => ⟨_, rfl, ?_⟩)))
  obtain ⟨y, hy, rfl⟩ := List.mem_map.mp hd
  show Wp (evSs (Gm F) (b_law_wild_statement.drop 5) (envS hs h n R p x y none none none) (stc cs a b c :: (R ++ [bud z0]))) (PostB (stc cs0 a0 b0 c0 :: (R ++ [bud z0])).length Q)
  have val : ∀ (cs : List Int) (a b c z : Int) {Q2 : W × Store → Prop}, (∀ (v : PV) cs a b c, v.ok h.ints h.arrays → Q2 (.d v.d, stc cs a b c :: (R ++ [bud z]))) → Wp (F f_law_wild_value [.r 0, .d (.lst (h.ints.map D.str)), .d (.lst (h.arrays.map D.str)), .d (.int 1)] (stc cs a b c :: (R ++ [bud z]))) Q2 := fun cs a b c z Q2 q =>
    call_of hF (value_ok 1 (k := k + 2 * n + 1) (R := R ++ [bud z]) cs a b c (pu_app hR rfl) (by omega) h2 (by omega) h4 fun v cs a b c hv _ => q v cs a b c hv)
  have no : ∀ (i : Int) (M : Store), (p : Int) ≠ i → evE (Gm F) (.cmp .eq (.loc 7) (.lit (.int i))) (envS hs h n R p x y none none none) M = .ok (.d (.bl false), M) := fun i M hi => by
    refine eve_cmp (M1 := M) (x := .d (.int (p : Int))) (y := .d (.int i)) rfl rfl ?_
    show some ((p : Int) == i) = _
    rw [beq_false_of_ne hi]
  have ye : ∀ (i : Int) (M : Store), (p : Int) = i → evE (Gm F) (.cmp .eq (.loc 7) (.lit (.int i))) (envS hs h n R p x y none none none) M = .ok (.d (.bl true), M) := fun i M hi => by
    refine eve_cmp (M1 := M) (x := .d (.int (p : Int))) (y := .d (.int i)) rfl rfl ?_
    show some ((p : Int) == i) = _
    rw [hi, beq_self_eq_true]
  by_cases p0 : (p : Int) = 0
  · refine wps_ifT (ye 0 _ p0) rfl ?_
    refine wps_ret (wpe_tup (wpa_cons (wpe_lit (wpa_cons (wpe_call (ws := [.r 0, .d (.lst (h.ints.map D.str)), .d (.lst (h.arrays.map D.str)), .d (.int 1)]) rfl (val cs a b c z0 fun v cs a b c hv => wpa_cons (wpe_loc ⟨_, rfl, wpa_nil ⟨_, rfl, ?_⟩⟩)))))))
    exact doneB hR (hq (.push v y) cs a b c z0 (sok_leaf rfl rfl ⟨hv, hy⟩))
  refine wps_ifN (no 0 _ p0) rfl ?_
  by_cases p1 : (p : Int) = 1
  · refine wps_ifT (ye 1 _ p1) rfl ?_
    refine wps_ret (wpe_tup (wpa_cons (wpe_lit (wpa_cons (wpe_loc ⟨_, rfl, wpa_cons (wpe_call (ws := [.r 0, .d (.lst (h.ints.map D.str)), .d (.lst (h.arrays.map D.str)), .d (.int 1)]) rfl (val cs a b c z0 fun v cs a b c hv => wpa_cons (wpe_call (ws := [.r 0, .d (.lst (h.ints.map D.str)), .d (.lst (h.arrays.map D.str)), .d (.int 1)]) rfl (val cs a b c z0 fun w cs a b c hw => wpa_nil ⟨_, rfl, ?_⟩))))⟩)))))
    exact doneB hR (hq (.store y v w) cs a b c z0 (sok_leaf rfl rfl ⟨hy, hv, hw⟩))
  refine wps_ifN (no 1 _ p1) rfl ?_
  have more : Wp (evSs (Gm F) (b_law_wild_statement.drop 8) (envS hs h n R p x y none none none) (stc cs a b c :: (R ++ [bud z0]))) (PostB (stc cs0 a0 b0 c0 :: (R ++ [bud z0])).length Q) := by
    by_cases p3 : (p : Int) = 3
    · refine wps_ifT (ye 3 _ p3) rfl ?_
      exact wps_ret (wpe_ok (w := .d PS.pause.d) rfl (doneB hR (hq .pause cs a b c z0 (sok_leaf rfl rfl trivial))))
    refine wps_ifN (no 3 _ p3) rfl ?_
    exact stmt_9 hF hh hl hl1 ho hp hx bl cs a b c z0 hR hq
  by_cases p2 : (p : Int) = 2
  · refine wps_ifW (wpe_and2 (wpe_ok (ye 2 _ p2) ⟨true, rfl, ?_⟩))
    refine wpt_t (wpe_cmp (wpe_idx (wpe_loc ⟨_, rfl, wpe_lit ⟨_, bud_ix, wpe_lit ⟨_, rfl, ?_⟩⟩⟩)))
    refine ⟨_, rfl, ?_⟩
    by_cases hz : (0 : Int) < z0
    · rw [if_pos (decide_eq_true hz)]
      refine wps_set (M4 := stc cs a b c :: (R ++ [bud (z0 - 1)])) (eve_bin (M1 := stc cs a b c :: (R ++ [bud z0])) (eve_idx (M1 := stc cs a b c :: (R ++ [bud z0])) rfl rfl bud_ix) rfl rfl) rfl rfl bud_set ?_
      exact wps_ret (wpe_ok (w := .d (PS.pop x y).d) rfl (doneB hR (hq (.pop x y) cs a b c (z0 - 1) (sok_leaf rfl rfl ⟨hx, hy⟩))))
    · rw [if_neg (by rw [decide_eq_false hz]; decide)]
      exact wps_nil more
  · refine wps_ifW (wpe_and2 (wpe_ok (no 2 _ p2) ⟨false, rfl, ?_⟩))
    refine wpt_f ⟨false, rfl, ?_⟩
    exact wpt_f (wps_nil more)
end
theorem bl2_ok {hs : List PH} {h : PH} (hh : ∀ g ∈ hs, g.ok) (hl : 0 < hs.length) (hl1 : hs.length < 1000) (ho : h.ok) : BlSpec hs h 1 ∧ BlSpec hs h 2 := by
  have s0 : StSpec hs h 0 := stmt_step hh hl hl1 ho fun m e => by omega
  have b0 : BlSpec hs h 0 := block_of @s0
  have s1 : StSpec hs h 1 := stmt_step hh hl hl1 ho fun m e => by
    obtain rfl : m = 0 := by omega
    exact @b0
  have b1 : BlSpec hs h 1 := block_of @s1
  have s2 : StSpec hs h 2 := stmt_step hh hl hl1 ho fun m e => by
    obtain rfl : m = 1 := by omega
    exact @b1
  exact ⟨@b1, block_of @s2⟩
end TN


namespace TN
/-! ### a core -/
structure PP where
  h : PH
  body : List PS
def PP.d (p : PP) : D := .tup [.str p.h.nm, .tup (p.h.items.map PIt.d), resD p.h.res, .tup (p.h.places.map PIt.d), .tup [], .tup [], .tup [], .tup [], .tup (PS.ds p.body)]
structure bodyOk (hs : List PH) (h : PH) (b : List PS) : Prop where
  d : PS.deps b ≤ 2
  f : ∀ u ∈ PS.fls b, u.fok hs h
  l : (PS.fls b).length ≤ 65
section
variable {F : Nat → List W → Store → TN.R (W × Store)} {k : Nat}
abbrev hdsW (hs : List PH) : W := .d (.lst (hs.map PH.d))
theorem tup_its (l : List PIt) {s : Env} {M : Store} {e : E} (he : evE (Gm F) e s M = .ok (.d (.lst (l.map PIt.d)), M)) : evE (Gm F) (.bi .tuple (.cons e .nil)) s M = .ok (.d (.tup (l.map PIt.d)), M) := by
  refine eve_bi (eve_one he) ?_
  simp only [biSem, seqOf, Option.bind_some, toDs_map, Option.map_some]
theorem core_end {hs : List PH} {h : PH} {ps : List D} (hps : ps.length < 100) {R' : Store} (cs : List Int) (a b c z : Int) {bd : List PS} {Q : TN.Flow × Env × Store → Prop}
    (hq : Q (.nx, [some (.r 0), some (hdsW hs), some (.r 1), some (.d h.d), some (.r (R'.length + 2)), some (.d (.tup (PS.ds bd))), some (.d (.tup (h.items.map PIt.d))), none], stc cs a b c :: .lst ((ps ++ [(PP.mk h bd).d]).map W.d) :: (R' ++ [bud z]))) :
    Wp (evSs (Gm F) (Ss.cons (.asg (.nm 6) (.bi .tuple (.cons (.idx (.loc 3) (.lit (.str [105, 116, 101, 109, 115]))) .nil))) (.cons (.expr (.mth .append (.loc 2) (.cons (.tup (.cons (.idx (.loc 3) (.lit (.str [110, 97, 109, 101]))) (.cons (.loc 6) (.cons (.idx (.loc 3) (.lit (.str [114, 101, 115, 117, 108, 116, 115]))) (.cons (.bi .tuple (.cons (.idx (.loc 3) (.lit (.str [112, 108, 97, 99, 101, 115]))) .nil)) (.cons (.tup .nil) (.cons (.tup .nil) (.cons (.tup .nil) (.cons (.tup .nil) (.cons (.loc 5) .nil)))))))))) .nil))) .nil))
      [some (.r 0), some (hdsW hs), some (.r 1), some (.d h.d), some (.r (R'.length + 2)), some (.d (.tup (PS.ds bd))), none, none] (stc cs a b c :: .lst (ps.map W.d) :: (R' ++ [bud z]))) Q := by
  refine wps_asg (wpe_ok (tup_its h.items rfl) ⟨_, rfl, ?_⟩)
  refine wps_expr (wpe_mth (wpe_ok (w := .r 1) (M1 := stc cs a b c :: .lst (ps.map W.d) :: (R' ++ [bud z])) rfl ⟨rfl, ?_⟩))
  refine wpa_cons (wpe_tup (wpa_cons (wpe_ok (w := .d (.str h.nm)) rfl (wpa_cons (wpe_loc ⟨_, rfl, wpa_cons (wpe_ok (w := .d (resD h.res)) rfl (wpa_cons (wpe_ok (tup_its h.places rfl) ?_)))⟩)))))
  refine Wp.of_eq (a := ([.d (.tup []), .d (.tup []), .d (.tup []), .d (.tup []), .d (.tup (PS.ds bd))], stc cs a b c :: .lst (ps.map W.d) :: (R' ++ [bud z]))) rfl ?_
  refine ⟨_, rfl, wpa_nil ⟨(.d .non, stc cs a b c :: .lst ((ps ++ [(PP.mk h bd).d]).map W.d) :: (R' ++ [bud z])), ?_, wps_nil hq⟩⟩
  have hl : (ps.map W.d).length < line := by rw [List.length_map]; unfold line; omega
  simp only [mtSem, List.getElem?_cons_succ, List.getElem?_cons_zero, if_pos hl, List.map_append, List.map_cons, List.map_nil]
  rfl
theorem core_turn (hF : F = run prog (k + 11)) {hs : List PH} (hh : ∀ g ∈ hs, g.ok) (hl : 0 < hs.length) (hl1 : hs.length < 1000) {h : PH} (ho : h.ok) {ps : List D} (hps : ps.length < 100) {R' : Store} (hR : Pu R') (cs : List Int) (a b c : Int) {Q : TN.Flow × Env × Store → Prop}
    (hq : ∀ (bd : List PS) cs a b c z, bodyOk hs h bd → Q (.nx, [some (.r 0), some (hdsW hs), some (.r 1), some (.d h.d), some (.r (R'.length + 2)), some (.d (.tup (PS.ds bd))), some (.d (.tup (h.items.map PIt.d))), none], stc cs a b c :: .lst ((ps ++ [(PP.mk h bd).d]).map W.d) :: (R' ++ [bud z]))) :
    Wp (evSs (Gm F) (Ss.cons (.asg (.nm 4) (.cel (.disp (.cons (.lit (.int 4)) .nil)))) (.cons (.asg (.nm 5) (.bin .add (.call f_law_wild_block (.cons (.loc 0) (.cons (.loc 1) (.cons (.loc 3) (.cons (.lit (.int 2)) (.cons (.loc 4) .nil)))))) (.call f_law_wild_block (.cons (.loc 0) (.cons (.loc 1) (.cons (.loc 3) (.cons (.lit (.int 1)) (.cons (.loc 4) .nil)))))))) (.cons (.ifs (.cmp .ne (.idx (.loc 3) (.lit (.str [114, 101, 115, 117, 108, 116, 115]))) (.tup .nil)) (.cons (.asg (.nm 5) (.bin .add (.loc 5) (.tup (.cons (.tup (.cons (.lit (.str [103, 105, 118, 101])) (.cons (.tup (.cons (.call f_law_wild_value (.cons (.loc 0) (.cons (.idx (.loc 3) (.lit (.str [105, 110, 116, 115]))) (.cons (.idx (.loc 3) (.lit (.str [97, 114, 114, 97, 121, 115]))) (.cons (.lit (.int 1)) .nil))))) .nil)) .nil))) .nil)))) .nil) .nil) (.cons (.asg (.nm 6) (.bi .tuple (.cons (.idx (.loc 3) (.lit (.str [105, 116, 101, 109, 115]))) .nil))) (.cons (.expr (.mth .append (.loc 2) (.cons (.tup (.cons (.idx (.loc 3) (.lit (.str [110, 97, 109, 101]))) (.cons (.loc 6) (.cons (.idx (.loc 3) (.lit (.str [114, 101, 115, 117, 108, 116, 115]))) (.cons (.bi .tuple (.cons (.idx (.loc 3) (.lit (.str [112, 108, 97, 99, 101, 115]))) .nil)) (.cons (.tup .nil) (.cons (.tup .nil) (.cons (.tup .nil) (.cons (.tup .nil) (.cons (.loc 5) .nil)))))))))) .nil))) .nil))))) [some (.r 0), some (hdsW hs), some (.r 1), some (.d h.d), none, none, none, none] (stc cs a b c :: .lst (ps.map W.d) :: R')) Q := by
  obtain ⟨bl1, bl2⟩ := bl2_ok hh hl hl1 ho
  have h1 := ho.li
  have h2 := ho.li1
  have h3 := ho.la
  have h4 := ho.la1
  have hR2 : Pu (.lst (ps.map W.d) :: R') := pu_cons (pu_l ps) hR
  refine wps_asg (wpe_ok (w := .r (R'.length + 2)) (M1 := stc cs a b c :: ((.lst (ps.map W.d) :: R') ++ [bud 4])) rfl ⟨_, rfl, ?_⟩)
  refine wps_asg (wpe_bin (wpe_call (ws := [.r 0, hdsW hs, .d h.d, .d (.int 2), .r (R'.length + 2)]) rfl (call_of hF (bl2 (k := k) (R := .lst (ps.map W.d) :: R') cs a b c 4 hR2 fun x1 cs a b c z o1 => ?_))))
  refine wpe_call (ws := [.r 0, hdsW hs, .d h.d, .d (.int 1), .r (R'.length + 2)]) rfl (call_of hF (bl1 (k := k + 2) (R := .lst (ps.map W.d) :: R') cs a b c z hR2 fun x2 cs a b c z o2 => ⟨.d (.tup (PS.ds (x1 ++ x2))), ?_, _, rfl, ?_⟩))
  · simp only [binSem]
    have := o1.n
    have := o2.n
    rw [if_pos (by rw [ds_map, ds_map, List.length_map, List.length_map]; unfold line; omega), ds_map, ds_map, ds_map, List.map_append]
  have len : (PS.fls (x1 ++ x2)).length ≤ 64 := by
    rw [fls_app, List.length_append]
    have q1 := o1.l
    have q2 := o2.l
    simp only [LL] at q1 q2
    omega
  have dep : PS.deps (x1 ++ x2) ≤ 2 := by
    rw [deps_app]
    have := o1.d
    have := o2.d
    omega
  have fok : ∀ u ∈ PS.fls (x1 ++ x2), u.fok hs h := fun u hu => by
    rw [fls_app] at hu
    rcases List.mem_append.mp hu with hu | hu
    · exact o1.f u hu
    · exact o2.f u hu
  obtain ⟨hn, hi, hp, hr⟩ := h
  cases hr with
  | false =>
    refine wps_ifN (M1 := stc cs a b c :: ((.lst (ps.map W.d) :: R') ++ [bud z])) (x := .d (.bl false)) rfl rfl ?_
    exact core_end (bd := x1 ++ x2) hps cs a b c z (hq (x1 ++ x2) cs a b c z ⟨dep, fok, by omega⟩)
  | true =>
    refine wps_ifT (M1 := stc cs a b c :: ((.lst (ps.map W.d) :: R') ++ [bud z])) (x := .d (.bl true)) rfl rfl ?_
    refine wps_asg (wpe_bin (wpe_loc ⟨_, rfl, wpe_tup (wpa_cons (wpe_tup (wpa_cons (wpe_lit (wpa_cons (wpe_tup (wpa_cons ?_)))))))⟩))
    refine wpe_call (ws := [.r 0, .d (.lst ((PH.mk hn hi hp true).ints.map D.str)), .d (.lst ((PH.mk hn hi hp true).arrays.map D.str)), .d (.int 1)]) rfl (call_of hF (value_ok 1 (k := k + 7) (R := (.lst (ps.map W.d) :: R') ++ [bud z]) cs a b c (pu_app hR2 rfl) (by omega) h2 (by omega) h4 fun v cs a b c hv hd => ?_))
    refine wpa_nil ⟨_, rfl, wpa_nil ⟨_, rfl, wpa_nil ⟨_, rfl, .d (.tup (PS.ds (x1 ++ x2 ++ [.give v]))), ?_, _, rfl, wps_nil ?_⟩⟩⟩
    · simp only [binSem]
      have := o1.n
      have := o2.n
      rw [if_pos (by rw [ds_map, List.length_map, List.length_append, List.length_singleton]; unfold line; omega), ds_map, ds_map]
      simp only [List.map_append]
      rfl
    · refine core_end (bd := x1 ++ x2 ++ [.give v]) hps cs a b c z (hq _ cs a b c z ⟨?_, ?_, ?_⟩)
      · rw [deps_app, PS.deps, PS.deps, PS.dep]; omega
      · intro u hu
        rw [fls_app] at hu
        rcases List.mem_append.mp hu with hu | hu
        · exact fok u hu
        · rw [PS.fls, PS.fls, PS.fl, List.append_nil] at hu
          rw [List.mem_singleton.mp hu]
          exact hv
      · rw [fls_app, PS.fls, PS.fls, PS.fl, List.append_nil, List.length_append, List.length_singleton]; omega
structure CoreOk (ps : List PP) : Prop where
  n0 : 0 < ps.length
  n1 : ps.length ≤ 2
  nd : (ps.map fun p => p.h.nm).Nodup
  ho : ∀ p ∈ ps, p.h.ok
  bo : ∀ p ∈ ps, bodyOk (ps.map PP.h) p.h p.body
abbrev PostC (Q : W × Store → Prop) : TN.Flow × Env × Store → Prop := fun r => Pu r.2.2 ∧ ∃ d, (match r.1 with | .nx => d = .non | .ret w => w = .d d | _ => False) ∧ Q (.d d, r.2.2.take 1)
theorem core_ret {hs : List PH} {ps : List PP} (cs : List Int) (a b c : Int) {R' : Store} (hR : Pu R') {Q : W × Store → Prop} (hq : Q (.d (.tup (ps.map PP.d)), [stc cs a b c])) {A B C D' : Option W} :
    Wp (evSs (Gm F) (b_law_wild_core.drop 3) [some (.r 0), some (hdsW hs), some (.r 1), A, B, C, D', none] (stc cs a b c :: .lst ((ps.map PP.d).map W.d) :: R')) (PostC Q) := by
  refine wps_ret (wpe_ok (w := .d (.tup (ps.map PP.d))) (M1 := stc cs a b c :: .lst ((ps.map PP.d).map W.d) :: R') ?_ ⟨pu_cons rfl (pu_cons (pu_l _) hR), _, rfl, hq⟩)
  refine eve_bi (eve_one (evE_loc rfl)) ?_
  show (toDs ((ps.map PP.d).map W.d)).map _ = _
  rw [toDs_map]
  rfl
/-- the core, behind its heads -/
theorem core_rest (hF : F = run prog (k + 11)) {hs : List PH} (h2 : (∃ h, hs = [h]) ∨ ∃ h g, hs = [h, g] ∧ h.nm ≠ g.nm) (hh : ∀ g ∈ hs, g.ok) (cs : List Int) (a b c : Int) {Q : W × Store → Prop} (hq : ∀ (ps : List PP) cs a b c, CoreOk ps → Q (.d (.tup (ps.map PP.d)), [stc cs a b c])) :
    Wp (evSs (Gm F) (b_law_wild_core.drop 1) [some (.r 0), some (hdsW hs), none, none, none, none, none, none] [stc cs a b c]) (PostC Q) := by
  refine wps_asg (wpe_ok (w := .r 1) (M1 := [stc cs a b c, .lst []]) rfl ⟨[some (.r 0), some (hdsW hs), some (.r 1), none, none, none, none, none], rfl, ?_⟩)
  rcases h2 with ⟨h, rfl⟩ | ⟨h, g, rfl, hne⟩
  · refine wps_for (items := [.one (.d h.d)]) (gs := []) (M1 := [stc cs a b c, .lst []]) rfl ?_
    refine wpf_cons rfl ?_
    refine core_turn hF hh (show 0 < 1 by decide) (show 1 < 1000 by decide) (hh h (by simp)) (ps := []) (by decide) (R' := []) rfl cs a b c fun bd cs a b c z hb => ⟨rfl, wpf_nil ?_⟩
    refine core_ret (ps := [PP.mk h bd]) cs a b c (pu_bud z) (hq _ cs a b c ⟨(show 0 < 1 by decide), (show 1 ≤ 2 by decide), by simp, ?_, ?_⟩)
    · intro p hp; rw [List.mem_singleton.mp hp]; exact hh h (by simp)
    · intro p hp; rw [List.mem_singleton.mp hp]; exact hb
  · refine wps_for (items := [.one (.d h.d), .one (.d g.d)]) (gs := []) (M1 := [stc cs a b c, .lst []]) rfl ?_
    refine wpf_cons rfl ?_
    refine core_turn hF hh (show 0 < 2 by decide) (show 2 < 1000 by decide) (hh h (by simp)) (ps := []) (by decide) (R' := []) rfl cs a b c fun b1 cs a b c z h1 => ⟨rfl, ?_⟩
    refine wpf_cons rfl ?_
    refine core_turn hF hh (show 0 < 2 by decide) (show 2 < 1000 by decide) (hh g (by simp)) (ps := [(PP.mk h b1).d]) (show 1 < 100 by decide) (R' := [bud z]) (pu_bud z) cs a b c fun b2 cs a b c z2 h2 => ⟨rfl, wpf_nil ?_⟩
    refine core_ret (ps := [PP.mk h b1, PP.mk g b2]) cs a b c (R' := [bud z, bud z2]) rfl (hq _ cs a b c ⟨(show 0 < 2 by decide), (show 2 ≤ 2 by decide), by simpa using hne, ?_, ?_⟩)
    · intro p hp
      rcases List.mem_cons.mp hp with rfl | hp
      · exact hh h (by simp)
      · rw [List.mem_singleton.mp hp]; exact hh g (by simp)
    · intro p hp
      rcases List.mem_cons.mp hp with rfl | hp
      · exact h1
      · rw [List.mem_singleton.mp hp]; exact h2
/-- the heads of the names -/
theorem heads_go (hF : F = run prog (k + 11)) {ns : List Tx} (h2 : (∃ x, ns = [x]) ∨ ∃ x y, ns = [x, y] ∧ x ≠ y) (cs : List Int) (a b c : Int) {Q : List W × Store → Prop} (hq : ∀ (hs : List PH) cs a b c, ((∃ h, hs = [h]) ∨ ∃ h g, hs = [h, g] ∧ h.nm ≠ g.nm) → (∀ g ∈ hs, g.ok) → Q ((hs.map PH.d).map W.d, [stc cs a b c])) :
    Wp (compLoop (fun x => (Tg.nm 7).put x (TN.wipe [some (.r 0), none, none, none, none, none, none, none] (Tg.nm 7).slots)) (fun s M => if E.no.isNo then .ok (true, M) else (evE (Gm F) .no s M).bind fun (x, M) => (TN.R.of (tru M x)).bind fun b => .ok (b, M)) (fun s M => evE (Gm F) (.call f_law_wild_head (.cons (.loc 0) (.cons (.loc 7) .nil))) s M) [] ((ns.map fun x => W.d (.str x)).map Itm.one) [stc cs a b c] []) Q := by
  rcases h2 with ⟨x, rfl⟩ | ⟨x, y, rfl, hne⟩
  · refine wpc_cons rfl ?_
    show Wp (evE (Gm F) (.call f_law_wild_head _) _ _) _
    refine wpe_call (ws := [.r 0, .d (.str x)]) rfl (call_of hF (head_ok (k := k + 8) (R := []) cs a b c rfl fun h cs a b c ho hn => ⟨by decide, wpc_nil ?_⟩))
    exact hq [h] cs a b c (.inl ⟨h, rfl⟩) fun g hg => by rw [List.mem_singleton.mp hg]; exact ho
  · refine wpc_cons rfl ?_
    show Wp (evE (Gm F) (.call f_law_wild_head _) _ _) _
    refine wpe_call (ws := [.r 0, .d (.str x)]) rfl (call_of hF (head_ok (k := k + 8) (R := []) cs a b c rfl fun h cs a b c ho hn => ⟨by decide, ?_⟩))
    refine wpc_cons rfl ?_
    show Wp (evE (Gm F) (.call f_law_wild_head _) _ _) _
    refine wpe_call (ws := [.r 0, .d (.str y)]) rfl (call_of hF (head_ok (k := k + 8) (R := []) cs a b c rfl fun g cs a b c go gn => ⟨(show 1 < line by decide), wpc_nil ?_⟩))
    refine hq [h, g] cs a b c (.inr ⟨h, g, rfl, by rw [hn, gn]; exact hne⟩) fun q hq2 => ?_
    rcases List.mem_cons.mp hq2 with rfl | hq2
    · exact ho
    · rw [List.mem_singleton.mp hq2]; exact go
end
theorem core_ok {k : Nat} (cs : List Int) (a b c : Int) {Q : W × Store → Prop} (hq : ∀ (ps : List PP) cs a b c, CoreOk ps → Q (.d (.tup (ps.map PP.d)), [stc cs a b c])) :
    Wp (run prog (k + 12) f_law_wild_core [.r 0] [stc cs a b c]) Q := by
  refine run_cells (fd := d_law_wild_core) rfl rfl rfl rfl fun F hF => ?_
  show Wp (evSs (Gm F) b_law_wild_core [some (.r 0), none, none, none, none, none, none, none] [stc cs a b c]) (PostC Q)
  have e1 : Wp (evI (Gm F) (.of (.frz (.bi .sorted (.cons (.call f_law_words (.cons (.loc 0) (.cons (.bin .add (.lit (.int 1)) (.call f_law_draw (.cons (.loc 0) (.cons (.lit (.int 2)) .nil)))) .nil))) .nil)))) [some (.r 0), none, none, none, none, none, none, none] [stc cs a b c]) fun r => ∃ (ns : List Tx) (cs : List Int) (a b c : Int), ((∃ x, ns = [x]) ∨ ∃ x y, ns = [x, y] ∧ x ≠ y) ∧ r = ((ns.map fun x => W.d (.str x)).map Itm.one, [], [stc cs a b c]) := by
    have e2 : Wp (evE (Gm F) (.frz (.bi .sorted (.cons (.call f_law_words (.cons (.loc 0) (.cons (.bin .add (.lit (.int 1)) (.call f_law_draw (.cons (.loc 0) (.cons (.lit (.int 2)) .nil)))) .nil))) .nil))) [some (.r 0), none, none, none, none, none, none, none] [stc cs a b c]) fun r => ∃ (ns : List Tx) (cs : List Int) (a b c : Int), ((∃ x, ns = [x]) ∨ ∃ x y, ns = [x, y] ∧ x ≠ y) ∧ r = (.d (.lst (ns.map D.str)), [stc cs a b c]) := by
      refine wpe_frz ?_
      have e3 : Wp (evEs (Gm F) (.cons (.call f_law_words (.cons (.loc 0) (.cons (.bin .add (.lit (.int 1)) (.call f_law_draw (.cons (.loc 0) (.cons (.lit (.int 2)) .nil)))) .nil))) .nil) [some (.r 0), none, none, none, none, none, none, none] [stc cs a b c]) fun r => ∃ (ns : List Tx) (cs : List Int) (a b c : Int), ((∃ x, ns = [x]) ∨ ∃ x y, ns = [x, y] ∧ x ≠ y) ∧ r = ([.d (.lst (ns.map D.str))], [stc cs a b c]) := by
        refine wpa_cons (wpe_callW (wpa_cons (wpe_loc ⟨_, rfl, wpa_cons (wpe_bin (wpe_lit (wpe_call (ws := [.r 0, .d (.int 2)]) rfl (call_of hF (drawN (most := 2) (R := []) cs a b c rfl (by decide) (by decide) fun y cs a b c hy => ?_)))))⟩)))
        rcases (show y = 0 ∨ y = 1 by omega) with rfl | rfl
        · refine ⟨.d (.int ((1 : Nat) : Int)), rfl, wpa_nil (call_of hF (words_ok (n := 1) (by decide) cs a b c rfl fun side j st t cs a b c _ _ _ => wpa_nil ⟨[wrd side (([113, 120, 122] : Tx).take j) st t 0], cs, a, b, c, .inl ⟨_, rfl⟩, rfl⟩))⟩
        · refine ⟨.d (.int ((2 : Nat) : Int)), rfl, wpa_nil (call_of hF (words_ok (n := 2) (by decide) cs a b c rfl fun side j st t cs a b c _ hst ht => wpa_nil ⟨[wrd side (([113, 120, 122] : Tx).take j) st t 0, wrd side (([113, 120, 122] : Tx).take j) st t 1], cs, a, b, c, .inr ⟨_, _, rfl, wrd_ne hst ht (by decide) (by decide) (by decide)⟩, rfl⟩))⟩
      show Wp (evL (Gm F) (.bi .sorted _) _ _) _
      obtain ⟨r, er, ns, cs, a, b, c, hn, rfl⟩ := e3.get
      simp only [evL, er, TN.R.bind_ok, lbSem]
      rcases hn with ⟨x, rfl⟩ | ⟨x, y, rfl, hne⟩
      · exact ⟨_, rfl, [x], cs, a, b, c, .inl ⟨_, rfl⟩, rfl⟩
      · show Wp ((TN.R.of ((strsIn _ (.d (.lst [.str x, .str y]))).bind fun ss => if ss.length < 64 then some ((sortTx ss).map fun s => W.d (.str s)) else none)).bind _) _
        show Wp ((TN.R.of (some ((if leTx x y then [x, y] else [y, x]).map fun s => W.d (.str s)))).bind _) _
        cases leTx x y with
        | true => exact ⟨_, rfl, [x, y], cs, a, b, c, .inr ⟨_, _, rfl, hne⟩, rfl⟩
        | false => exact ⟨_, rfl, [y, x], cs, a, b, c, .inr ⟨_, _, rfl, fun e => hne e.symm⟩, rfl⟩
    obtain ⟨r, er, ns, cs, a, b, c, hn, rfl⟩ := e2.get
    simp only [evI, er, TN.R.bind_ok]
    refine ⟨ns, cs, a, b, c, hn, ?_⟩
    show ((((ns.map D.str).map W.d).map Itm.one, ([] : List Nat), [stc cs a b c]) : List Itm × List Nat × Store) = _
    simp only [List.map_map]
    rfl
  obtain ⟨r, er, ns, cs, a, b, c, hn, rfl⟩ := e1.get
  refine wps_asg (wpe_frz (wpl_comp er ?_))
  refine heads_go hF hn cs a b c fun hs cs a b c h1 h2 => ⟨_, toDs_map _, [some (.r 0), some (hdsW hs), none, none, none, none, none, none], rfl, ?_⟩
  exact core_rest hF h1 h2 cs a b c hq
end TN


namespace TN
/-! ### the statements of a body -/
section
variable {F : Nat → List W → Store → TN.R (W × Store)}
abbrev dl (l : List D) : Cell := .lst (l.map W.d)
theorem dl_app (l m : List D) : l.map W.d ++ m.map W.d = (l ++ m).map W.d := (List.map_append ..).symm
abbrev stB : Ss := (Ss.cons (.expr (.mth .append (.loc 1) (.cons (.loc 2) .nil))) (.cons (.ifs (.cmp .isIn (.idx (.loc 2) (.lit (.int 0))) (.tup (.cons (.lit (.str [105, 102])) (.cons (.lit (.str [119, 104, 105, 108, 101])) .nil)))) (.cons (.for_ (.nm 3) (.of (.sl (.loc 2) (.lit (.int 2)) .no)) (.cons (.expr (.mth .extend (.loc 1) (.cons (.call fstatements_in (.cons (.loc 3) .nil)) .nil))) .nil)) .nil) .nil) .nil))
theorem st_app {acc : List D} {d w : D} (hl : acc.length < 9000) {ss : Ss} {Q : TN.Flow × Env × Store → Prop} (h : Wp (evSs (Gm F) ss [some (.d w), some (.r 0), some (.d d), none] [dl (acc ++ [d])]) Q) :
    Wp (evSs (Gm F) (.cons (.expr (.mth .append (.loc 1) (.cons (.loc 2) .nil))) ss) [some (.d w), some (.r 0), some (.d d), none] [dl acc]) Q := by
  refine wps_expr (wpe_app (G := []) rfl rfl (wpe_loc ⟨_, rfl, [], rfl, rfl, by rw [List.length_map]; unfold line; omega, ?_⟩))
  rw [show acc.map W.d ++ [W.d d] = (acc ++ [d]).map W.d by simp]
  exact h
theorem st_ext {acc : List D} {c : List PS} {w d : D} (hrec : ∀ M, F fstatements_in [.d (.tup (PS.ds c))] M = .ok (.d (.lst (PS.ds (PS.fls c))), M)) (hl : acc.length < 9000) (hc : (PS.fls c).length < 9000) {Q : TN.Flow × Env × Store → Prop} (h : Q (.nx, [some (.d w), some (.r 0), some (.d d), some (.d (.tup (PS.ds c)))], [dl (acc ++ PS.ds (PS.fls c))])) :
    Wp (evSs (Gm F) (.cons (.expr (.mth .extend (.loc 1) (.cons (.call fstatements_in (.cons (.loc 3) .nil)) .nil))) .nil) [some (.d w), some (.r 0), some (.d d), some (.d (.tup (PS.ds c)))] [dl acc]) Q := by
  refine wps_expr (wpe_ext (G := []) rfl rfl (wpe_call (ws := [.d (.tup (PS.ds c))]) (M1 := [dl acc]) rfl ?_))
  refine Wp.of_eq (hrec _) ⟨[], (PS.ds (PS.fls c)).map W.d, rfl, rfl, rfl, ?_, wps_nil ?_⟩
  · rw [List.length_map, List.length_map, ds_map, List.length_map]; unfold line; omega
  · show Q (_, _, [] ++ [Cell.lst (acc.map W.d ++ (PS.ds (PS.fls c)).map W.d)])
    rw [dl_app]
    exact h
theorem st_go {n : Nat} (hrec : ∀ c, PS.deps c + 1 ≤ n → (PS.fls c).length < 1000 → ∀ M, F fstatements_in [.d (.tup (PS.ds c))] M = .ok (.d (.lst (PS.ds (PS.fls c))), M)) {w : D} {Q : TN.Flow × Env × Store → Prop} :
    ∀ (b : List PS) (acc : List D), PS.deps b ≤ n → acc.length + (PS.fls b).length < 1000 → Q (.nx, [some (.d w), some (.r 0), none, none], [dl (acc ++ PS.ds (PS.fls b))]) →
      Wp (forLoop (Tg.nm 2).put (fun s M => evSs (Gm F) stB s M) [] [some (.d w), some (.r 0), none, none] (((PS.ds b).map W.d).map Itm.one) [some (.d w), some (.r 0), none, none] [dl acc]) Q
  | [], acc, hd, hl, hq => wpf_nil (by rw [PS.fls, PS.ds, List.append_nil] at hq; exact hq)
  | s :: b, acc, hd, hl, hq => by
    rw [PS.deps] at hd
    rw [PS.fls, List.length_append] at hl
    rw [PS.ds]
    refine wpf_cons (s1 := [some (.d w), some (.r 0), some (.d s.d), none]) rfl (st_app (by omega) ?_)
    have leaf : s.fl = [s] → Wp (forLoop (Tg.nm 2).put (fun s M => evSs (Gm F) stB s M) [] [some (.d w), some (.r 0), none, none] (((PS.ds b).map W.d).map Itm.one) [some (.d w), some (.r 0), none, none] [dl (acc ++ [s.d])]) Q := fun e => by
      rw [e] at hl
      simp only [List.length_singleton] at hl
      refine st_go hrec b (acc ++ [s.d]) (by omega) (by simp only [List.length_append, List.length_singleton]; omega) ?_
      rw [PS.fls, e] at hq
      rw [List.append_assoc]
      rw [ds_map] at hq ⊢
      exact hq
    cases s with
    | whl t c =>
      rw [PS.dep] at hd
      rw [PS.fl, List.length_cons] at hl
      refine wps_ifT (M1 := [dl (acc ++ [(PS.whl t c).d])]) (x := .d (.bl true)) rfl rfl ?_
      refine wps_for (items := [.one (.d (.tup (PS.ds c)))]) (gs := []) (M1 := [dl (acc ++ [(PS.whl t c).d])]) rfl ?_
      refine wpf_cons rfl (st_ext (hrec c (by omega) (by omega)) (by simp only [List.length_append, List.length_singleton]; omega) (by omega) ⟨rfl, wpf_nil (wps_nil (wps_nil ⟨rfl, ?_⟩))⟩)
      refine st_go hrec b _ (by omega) (by simp only [List.length_append, List.length_singleton, ds_map, List.length_map]; omega) ?_
      rw [PS.fls, PS.fl] at hq
      simp only [ds_map, List.map_append, List.map_cons, List.append_assoc, List.cons_append, List.nil_append] at hq ⊢
      exact hq
    | ifs t c e =>
      rw [PS.dep] at hd
      rw [PS.fl, List.length_cons, List.length_append] at hl
      refine wps_ifT (M1 := [dl (acc ++ [(PS.ifs t c e).d])]) (x := .d (.bl true)) rfl rfl ?_
      refine wps_for (items := [.one (.d (.tup (PS.ds c))), .one (.d (.tup (PS.ds e)))]) (gs := []) (M1 := [dl (acc ++ [(PS.ifs t c e).d])]) rfl ?_
      refine wpf_cons rfl (st_ext (hrec c (by omega) (by omega)) (by simp only [List.length_append, List.length_singleton]; omega) (by omega) ⟨rfl, ?_⟩)
      refine wpf_cons rfl (st_ext (hrec e (by omega) (by omega)) (by simp only [List.length_append, List.length_singleton, ds_map, List.length_map]; omega) (by omega) ⟨rfl, wpf_nil (wps_nil (wps_nil ⟨rfl, ?_⟩))⟩)
      refine st_go hrec b _ (by omega) (by simp only [List.length_append, List.length_singleton, ds_map, List.length_map]; omega) ?_
      rw [PS.fls, PS.fl] at hq
      simp only [ds_map, List.map_append, List.map_cons, List.append_assoc, List.cons_append, List.nil_append] at hq ⊢
      exact hq
    | _ =>
      refine wps_ifF (M1 := [dl (acc ++ [_])]) (x := .d (.bl false)) rfl rfl (wps_nil (wps_nil ⟨rfl, ?_⟩))
      exact leaf rfl
theorem st_ok : ∀ (n : Nat) {k : Nat} (b : List PS), PS.deps b ≤ n → (PS.fls b).length < 1000 → ∀ M, run prog (k + n + 1) fstatements_in [.d (.tup (PS.ds b))] M = .ok (.d (.lst (PS.ds (PS.fls b))), M) := fun n => by
  induction n with
  | zero =>
    intro k b hd hl M
    refine run_pureC (fd := dstatements_in) rfl rfl rfl rfl (fun F hF => ?_) M
    refine wps_asg (wpe_ok (w := .r 0) (M1 := [dl []]) rfl ⟨[some (.d (.tup (PS.ds b))), some (.r 0), none, none], rfl, ?_⟩)
    refine wps_for (items := ((PS.ds b).map W.d).map Itm.one) (gs := []) (M1 := [dl []]) rfl ?_
    refine st_go (n := 0) (fun c h => by omega) b [] hd (by simpa using hl) ?_
    exact wps_ret (wpe_loc ⟨_, rfl, 0, rfl, by rw [List.nil_append]; rfl⟩)
  | succ n ih =>
    intro k b hd hl M
    refine run_pureC (fd := dstatements_in) rfl rfl rfl rfl (fun F hF => ?_) M
    refine wps_asg (wpe_ok (w := .r 0) (M1 := [dl []]) rfl ⟨[some (.d (.tup (PS.ds b))), some (.r 0), none, none], rfl, ?_⟩)
    refine wps_for (items := ((PS.ds b).map W.d).map Itm.one) (gs := []) (M1 := [dl []]) rfl ?_
    refine st_go (n := n + 1) (fun c h hc M => by rw [hF]; exact ih c (by omega) hc M) b [] hd (by simpa using hl) ?_
    exact wps_ret (wpe_loc ⟨_, rfl, 0, rfl, by rw [List.nil_append]; rfl⟩)
/-! ### the law's -/
abbrev lsB : Ss := (Ss.cons (.expr (.mth .append (.loc 1) (.cons (.loc 2) .nil))) (.cons (.ifs (.cmp .eq (.idx (.loc 2) (.lit (.int 0))) (.lit (.str [119, 104, 105, 108, 101]))) (.cons (.asg (.nm 1) (.cel (.cat (.loc 1) (.call f_law_statements (.cons (.idx (.loc 2) (.lit (.int 2))) .nil))))) .nil) (.cons (.ifs (.cmp .eq (.idx (.loc 2) (.lit (.int 0))) (.lit (.str [105, 102]))) (.cons (.asg (.nm 1) (.cel (.cat (.frz (.cat (.loc 1) (.call f_law_statements (.cons (.idx (.loc 2) (.lit (.int 2))) .nil)))) (.call f_law_statements (.cons (.idx (.loc 2) (.lit (.int 3))) .nil))))) .nil) .nil) .nil)) .nil))
theorem cat_cell {G : Store} {acc l : List D} {i : Nat} {e : E} {s : Env} (hi : s[i]? = some (some (.r G.length))) (he : evE (Gm F) e s (G ++ [dl acc]) = .ok (.d (.lst l), G ++ [dl acc])) (hl : acc.length + l.length < 9000) : evL (Gm F) (.cat (.loc i) e) s (G ++ [dl acc]) = .ok ((acc ++ l).map W.d, G ++ [dl acc]) := by
  simp only [evL, evE_loc hi, he, TN.R.bind_ok, catSem, listOf, get_last, Option.bind_some]
  rw [if_pos (by rw [List.length_map, List.length_map]; unfold line; omega), dl_app]
  rfl
theorem cat_dd {M M1 M2 : Store} {acc l : List D} {a e : E} {s : Env} (ha : evE (Gm F) a s M = .ok (.d (.lst acc), M1)) (he : evE (Gm F) e s M1 = .ok (.d (.lst l), M2)) (hl : acc.length + l.length < 9000) : evL (Gm F) (.cat a e) s M = .ok ((acc ++ l).map W.d, M2) := by
  simp only [evL, ha, he, TN.R.bind_ok, catSem, listOf, Option.bind_some]
  rw [if_pos (by rw [List.length_map, List.length_map]; unfold line; omega), dl_app]
  rfl
theorem cel_of {M M1 : Store} {l : L} {s : Env} {ds : List D} (h : evL (Gm F) l s M = .ok (ds.map W.d, M1)) : evE (Gm F) (.cel l) s M = .ok (.r M1.length, M1 ++ [dl ds]) := by
  simp only [evE, h, TN.R.bind_ok]
theorem frz_of {M M1 : Store} {l : L} {s : Env} {ds : List D} (h : evL (Gm F) l s M = .ok (ds.map W.d, M1)) : evE (Gm F) (.frz l) s M = .ok (.d (.lst ds), M1) := by
  simp only [evE, h, TN.R.bind_ok, toDs_map, TN.R.of_some]
theorem lst_go {n : Nat} (hrec : ∀ c, PS.deps c + 1 ≤ n → (PS.fls c).length < 1000 → ∀ M, F f_law_statements [.d (.tup (PS.ds c))] M = .ok (.d (.lst (PS.ds (PS.fls c))), M)) {w : D} {Q : TN.Flow × Env × Store → Prop} :
    ∀ (b : List PS) (acc : List D) (G : Store), PS.deps b ≤ n → acc.length + (PS.fls b).length < 1000 → (∀ G : Store, Q (.nx, [some (.d w), some (.r G.length), none], G ++ [dl (acc ++ PS.ds (PS.fls b))])) →
      Wp (forLoop (Tg.nm 2).put (fun s M => evSs (Gm F) lsB s M) [] [some (.d w), some (.r 0), none] (((PS.ds b).map W.d).map Itm.one) [some (.d w), some (.r G.length), none] (G ++ [dl acc])) Q
  | [], acc, G, hd, hl, hq => wpf_nil (by have := hq G; rw [PS.fls, PS.ds, List.append_nil] at this; exact this)
  | s :: b, acc, G, hd, hl, hq => by
    rw [PS.deps] at hd
    rw [PS.fls, List.length_append] at hl
    rw [PS.ds]
    refine wpf_cons (s1 := [some (.d w), some (.r G.length), some (.d s.d)]) rfl ?_
    refine wps_expr (wpe_app (G := G) rfl rfl (wpe_loc ⟨_, rfl, G, rfl, rfl, by rw [List.length_map]; unfold line; omega, ?_⟩))
    rw [show acc.map W.d ++ [W.d s.d] = (acc ++ [s.d]).map W.d by simp]
    have leaf : s.fl = [s] → Wp (forLoop (Tg.nm 2).put (fun s M => evSs (Gm F) lsB s M) [] [some (.d w), some (.r 0), none] (((PS.ds b).map W.d).map Itm.one) [some (.d w), some (.r G.length), none] (G ++ [dl (acc ++ [s.d])])) Q := fun e => by
      rw [e] at hl
      simp only [List.length_singleton] at hl
      refine lst_go hrec b (acc ++ [s.d]) G (by omega) (by simp only [List.length_append, List.length_singleton]; omega) fun G => ?_
      have := hq G
      rw [PS.fls, e] at this
      rw [List.append_assoc]
      rw [ds_map] at this ⊢
      exact this
    have ec : ∀ (c : List PS) (j : Int) (M : Store) (d : D), (∀ M, F f_law_statements [.d (.tup (PS.ds c))] M = .ok (.d (.lst (PS.ds (PS.fls c))), M)) → idxSem M (.d d) (.d (.int j)) = some (.d (.tup (PS.ds c))) → evE (Gm F) (.call f_law_statements (.cons (.idx (.loc 2) (.lit (.int j))) .nil)) [some (.d w), some (.r G.length), some (.d d)] M = .ok (.d (.lst (PS.ds (PS.fls c))), M) := fun c j M d hr hi => by
      have e0 : evEs (Gm F) (.cons (.idx (.loc 2) (.lit (.int j))) .nil) [some (.d w), some (.r G.length), some (.d d)] M = .ok ([.d (.tup (PS.ds c))], M) := eve_one (eve_idx (M1 := M) (M2 := M) (evE_loc rfl) rfl hi)
      simp only [evE, e0, TN.R.bind_ok]
      show (F f_law_statements [.d (.tup (PS.ds c))] M).from _ = _
      rw [hr]
      rfl
    cases s with
    | whl t c =>
      rw [PS.dep] at hd
      rw [PS.fl, List.length_cons] at hl
      refine wps_ifT (M1 := G ++ [dl (acc ++ [(PS.whl t c).d])]) (x := .d (.bl true)) rfl rfl ?_
      refine wps_asg (wpe_ok (cel_of (cat_cell rfl (ec c 2 _ _ (hrec c (by omega) (by omega)) rfl) (by simp only [List.length_append, List.length_singleton, ds_map, List.length_map]; omega))) ⟨_, rfl, wps_nil (wps_nil ⟨rfl, ?_⟩)⟩)
      refine lst_go hrec b _ (G ++ [dl (acc ++ [(PS.whl t c).d])]) (by omega) (by simp only [List.length_append, List.length_singleton, ds_map, List.length_map]; omega) fun G => ?_
      have hq := hq G
      rw [PS.fls, PS.fl] at hq
      simp only [ds_map, List.map_append, List.map_cons, List.append_assoc, List.cons_append, List.nil_append] at hq ⊢
      exact hq
    | ifs t c e =>
      rw [PS.dep] at hd
      rw [PS.fl, List.length_cons, List.length_append] at hl
      refine wps_ifF (M1 := G ++ [dl (acc ++ [(PS.ifs t c e).d])]) (x := .d (.bl false)) rfl rfl ?_
      refine wps_ifT (M1 := G ++ [dl (acc ++ [(PS.ifs t c e).d])]) (x := .d (.bl true)) rfl rfl ?_
      refine wps_asg (wpe_ok (cel_of (cat_dd (frz_of (cat_cell rfl (ec c 2 _ _ (hrec c (by omega) (by omega)) rfl) (by simp only [List.length_append, List.length_singleton, ds_map, List.length_map]; omega))) (ec e 3 _ _ (hrec e (by omega) (by omega)) rfl) (by simp only [List.length_append, List.length_singleton, ds_map, List.length_map]; omega))) ⟨_, rfl, wps_nil (wps_nil (wps_nil ⟨rfl, ?_⟩))⟩)
      refine lst_go hrec b _ (G ++ [dl (acc ++ [(PS.ifs t c e).d])]) (by omega) (by simp only [List.length_append, List.length_singleton, ds_map, List.length_map]; omega) fun G => ?_
      have hq := hq G
      rw [PS.fls, PS.fl] at hq
      simp only [ds_map, List.map_append, List.map_cons, List.append_assoc, List.cons_append, List.nil_append] at hq ⊢
      exact hq
    | _ =>
      refine wps_ifF (M1 := G ++ [dl (acc ++ [_])]) (x := .d (.bl false)) rfl rfl ?_
      refine wps_ifF (M1 := G ++ [dl (acc ++ [_])]) (x := .d (.bl false)) rfl rfl (wps_nil (wps_nil (wps_nil ⟨rfl, ?_⟩)))
      exact leaf rfl
theorem lst_ok : ∀ (n : Nat) {k : Nat} (b : List PS), PS.deps b ≤ n → (PS.fls b).length < 1000 → ∀ M, run prog (k + n + 1) f_law_statements [.d (.tup (PS.ds b))] M = .ok (.d (.lst (PS.ds (PS.fls b))), M) := fun n => by
  induction n with
  | zero =>
    intro k b hd hl M
    refine run_pureC (fd := d_law_statements) rfl rfl rfl rfl (fun F hF => ?_) M
    refine wps_asg (wpe_ok (w := .r 0) (M1 := [dl []]) rfl ⟨[some (.d (.tup (PS.ds b))), some (.r 0), none], rfl, ?_⟩)
    refine wps_for (items := ((PS.ds b).map W.d).map Itm.one) (gs := []) (M1 := [dl []]) rfl ?_
    refine lst_go (n := 0) (fun c h => by omega) b [] [] hd (by simpa using hl) fun G => ?_
    exact wps_ret (wpe_loc ⟨_, rfl, _, rfl, by rw [List.nil_append]; exact get_last G _⟩)
  | succ n ih =>
    intro k b hd hl M
    refine run_pureC (fd := d_law_statements) rfl rfl rfl rfl (fun F hF => ?_) M
    refine wps_asg (wpe_ok (w := .r 0) (M1 := [dl []]) rfl ⟨[some (.d (.tup (PS.ds b))), some (.r 0), none], rfl, ?_⟩)
    refine wps_for (items := ((PS.ds b).map W.d).map Itm.one) (gs := []) (M1 := [dl []]) rfl ?_
    refine lst_go (n := n + 1) (fun c h hc M => by rw [hF]; exact ih c (by omega) hc M) b [] [] hd (by simpa using hl) fun G => ?_
    exact wps_ret (wpe_loc ⟨_, rfl, _, rfl, by rw [List.nil_append]; exact get_last G _⟩)
end
end TN


namespace TN
/-! ### the loops' bodies -/
abbrev fbassigned_in_0 : Ss := (.cons (.ifs (.cmp .eq (.idx (.loc 2) (.lit (.int 0))) (.lit (.str [115, 101, 116]))) (.cons (.expr (.mth .extend (.loc 1) (.cons (.frz (.comp (.loc 3) (.tu [3, 4]) (.of (.idx (.loc 2) (.lit (.int 1)))) .no)) .nil))) .nil) (.cons (.ifs (.cmp .eq (.idx (.loc 2) (.lit (.int 0))) (.lit (.str [112, 111, 112]))) (.cons (.expr (.mth .extend (.loc 1) (.cons (.frz (.disp (.cons (.idx (.loc 2) (.lit (.int 1))) (.cons (.bin .add (.lit (.str [35])) (.idx (.loc 2) (.lit (.int 2)))) .nil)))) .nil))) .nil) (.cons (.ifs (.cmp .eq (.idx (.loc 2) (.lit (.int 0))) (.lit (.str [112, 117, 115, 104]))) (.cons (.expr (.mth .append (.loc 1) (.cons (.bin .add (.lit (.str [35])) (.idx (.loc 2) (.lit (.int 2)))) .nil))) .nil) (.cons (.ifs (.cmp .eq (.idx (.loc 2) (.lit (.int 0))) (.lit (.str [99, 97, 108, 108]))) (.cons (.expr (.mth .extend (.loc 1) (.cons (.idx (.loc 2) (.lit (.int 3))) .nil))) .nil) .nil) .nil)) .nil)) .nil)) .nil)
abbrev fbchanged_in_0 : Ss := (.cons (.ifs (.cin cCHANGING (.idx (.loc 2) (.lit (.int 0)))) (.cons (.expr (.mth .append (.loc 1) (.cons (.idx (.loc 2) (.cidx cCHANGING (.idx (.loc 2) (.lit (.int 0))))) .nil))) .nil) .nil) .nil)
abbrev fbpassed_on_0 : Ss := (.cons (.ifs (.cmp .eq (.idx (.loc 4) (.lit (.int 0))) (.lit (.str [99, 97, 108, 108]))) (.cons (.asg (.nm 5) (.idx (.call fproc_named (.cons (.loc 0) (.cons (.idx (.loc 4) (.lit (.int 1))) .nil))) (.lit (.int 1)))) (.cons (.for_ (.tu [6, 7]) (.zip (.loc 5) (.idx (.loc 4) (.lit (.int 2)))) (.cons (.ifs (.and (.cons (.cmp .eq (.idx (.loc 6) (.lit (.int 0))) (.lit (.str [97, 114, 114, 97, 121]))) (.cons (.cmp .isIn (.bin .add (.lit (.str [35])) (.idx (.loc 6) (.lit (.int 1)))) (.idx (.loc 1) (.idx (.loc 4) (.lit (.int 1))))) .nil))) (.cons (.expr (.mth .append (.loc 3) (.cons (.bin .add (.lit (.str [35])) (.idx (.loc 7) (.lit (.int 1)))) .nil))) .nil) .nil) .nil)) .nil)) .nil) .nil)
abbrev fbpassed_on_1 : Ss := (.cons (.ifs (.and (.cons (.cmp .eq (.idx (.loc 6) (.lit (.int 0))) (.lit (.str [97, 114, 114, 97, 121]))) (.cons (.cmp .isIn (.bin .add (.lit (.str [35])) (.idx (.loc 6) (.lit (.int 1)))) (.idx (.loc 1) (.idx (.loc 4) (.lit (.int 1))))) .nil))) (.cons (.expr (.mth .append (.loc 3) (.cons (.bin .add (.lit (.str [35])) (.idx (.loc 7) (.lit (.int 1)))) .nil))) .nil) .nil) .nil)
abbrev fbpassed_to_0 : Ss := (.cons (.ifs (.cmp .eq (.idx (.loc 4) (.lit (.int 0))) (.lit (.str [99, 97, 108, 108]))) (.cons (.for_ (.tu [5, 6]) (.zip (.idx (.call fproc_named (.cons (.loc 0) (.cons (.idx (.loc 4) (.lit (.int 1))) .nil))) (.lit (.int 1))) (.idx (.loc 4) (.lit (.int 2)))) (.cons (.ifs (.and (.cons (.cmp .eq (.idx (.loc 5) (.lit (.int 0))) (.lit (.str [97, 114, 114, 97, 121]))) (.cons (.cmp .isIn (.idx (.loc 5) (.lit (.int 1))) (.idx (.loc 1) (.idx (.loc 4) (.lit (.int 1))))) .nil))) (.cons (.expr (.mth .append (.loc 3) (.cons (.idx (.loc 6) (.lit (.int 1))) .nil))) .nil) .nil) .nil)) .nil) .nil) .nil)
abbrev fbpassed_to_1 : Ss := (.cons (.ifs (.and (.cons (.cmp .eq (.idx (.loc 5) (.lit (.int 0))) (.lit (.str [97, 114, 114, 97, 121]))) (.cons (.cmp .isIn (.idx (.loc 5) (.lit (.int 1))) (.idx (.loc 1) (.idx (.loc 4) (.lit (.int 1))))) .nil))) (.cons (.expr (.mth .append (.loc 3) (.cons (.idx (.loc 6) (.lit (.int 1))) .nil))) .nil) .nil) .nil)
abbrev fbmoving_table_0 : Ss := (.cons (.for_ (.nm 4) (.of (.call fpassed_on (.cons (.loc 0) (.cons (.loc 1) (.cons (.loc 3) .nil))))) (.cons (.ifs (.cmp .notIn (.loc 4) (.idx (.loc 1) (.idx (.loc 3) (.lit (.int 0))))) (.cons (.expr (.mth .append (.idx (.loc 1) (.idx (.loc 3) (.lit (.int 0)))) (.cons (.loc 4) .nil))) (.cons (.asg (.nm 2) (.lit (.bl true))) .nil)) .nil) .nil)) .nil)
abbrev fbmoving_table_1 : Ss := (.cons (.ifs (.cmp .notIn (.loc 4) (.idx (.loc 1) (.idx (.loc 3) (.lit (.int 0))))) (.cons (.expr (.mth .append (.idx (.loc 1) (.idx (.loc 3) (.lit (.int 0)))) (.cons (.loc 4) .nil))) (.cons (.asg (.nm 2) (.lit (.bl true))) .nil)) .nil) .nil)
abbrev fbtouched_table_0 : Ss := (.cons (.for_ (.nm 4) (.of (.call fpassed_to (.cons (.loc 0) (.cons (.loc 1) (.cons (.loc 3) .nil))))) (.cons (.ifs (.cmp .notIn (.loc 4) (.idx (.loc 1) (.idx (.loc 3) (.lit (.int 0))))) (.cons (.expr (.mth .append (.idx (.loc 1) (.idx (.loc 3) (.lit (.int 0)))) (.cons (.loc 4) .nil))) (.cons (.asg (.nm 2) (.lit (.bl true))) .nil)) .nil) .nil)) .nil)
abbrev fbtouched_table_1 : Ss := (.cons (.ifs (.cmp .notIn (.loc 4) (.idx (.loc 1) (.idx (.loc 3) (.lit (.int 0))))) (.cons (.expr (.mth .append (.idx (.loc 1) (.idx (.loc 3) (.lit (.int 0)))) (.cons (.loc 4) .nil))) (.cons (.asg (.nm 2) (.lit (.bl true))) .nil)) .nil) .nil)
abbrev fb_law_moves_0 : Ss := (.cons (.asg (.nm 4) (.cel (.disp .nil))) (.cons (.for_ (.nm 5) (.of (.call f_law_statements (.cons (.idx (.loc 2) (.lit (.int 8))) .nil))) (.cons (.ifs (.cmp .eq (.idx (.loc 5) (.lit (.int 0))) (.lit (.str [115, 101, 116]))) (.cons (.asg (.nm 4) (.cel (.cat (.loc 4) (.frz (.comp (.loc 9) (.tu [9, 10]) (.of (.idx (.loc 5) (.lit (.int 1)))) .no))))) .nil) (.cons (.ifs (.cmp .eq (.idx (.loc 5) (.lit (.int 0))) (.lit (.str [112, 111, 112]))) (.cons (.asg (.nm 4) (.cel (.cat (.loc 4) (.frz (.disp (.cons (.idx (.loc 5) (.lit (.int 1))) (.cons (.bin .add (.lit (.str [35])) (.idx (.loc 5) (.lit (.int 2)))) .nil))))))) .nil) (.cons (.ifs (.cmp .eq (.idx (.loc 5) (.lit (.int 0))) (.lit (.str [112, 117, 115, 104]))) (.cons (.expr (.mth .append (.loc 4) (.cons (.bin .add (.lit (.str [35])) (.idx (.loc 5) (.lit (.int 2)))) .nil))) .nil) (.cons (.ifs (.cmp .eq (.idx (.loc 5) (.lit (.int 0))) (.lit (.str [99, 97, 108, 108]))) (.cons (.asg (.nm 4) (.cel (.cat (.loc 4) (.frz (.bi .list (.cons (.idx (.loc 5) (.lit (.int 3))) .nil)))))) .nil) .nil) .nil)) .nil)) .nil)) .nil)) (.cons (.set (.loc 1) (.idx (.loc 2) (.lit (.int 0))) (.loc 4)) .nil)))
abbrev fb_law_moves_1 : Ss := (.cons (.ifs (.cmp .eq (.idx (.loc 5) (.lit (.int 0))) (.lit (.str [115, 101, 116]))) (.cons (.asg (.nm 4) (.cel (.cat (.loc 4) (.frz (.comp (.loc 9) (.tu [9, 10]) (.of (.idx (.loc 5) (.lit (.int 1)))) .no))))) .nil) (.cons (.ifs (.cmp .eq (.idx (.loc 5) (.lit (.int 0))) (.lit (.str [112, 111, 112]))) (.cons (.asg (.nm 4) (.cel (.cat (.loc 4) (.frz (.disp (.cons (.idx (.loc 5) (.lit (.int 1))) (.cons (.bin .add (.lit (.str [35])) (.idx (.loc 5) (.lit (.int 2)))) .nil))))))) .nil) (.cons (.ifs (.cmp .eq (.idx (.loc 5) (.lit (.int 0))) (.lit (.str [112, 117, 115, 104]))) (.cons (.expr (.mth .append (.loc 4) (.cons (.bin .add (.lit (.str [35])) (.idx (.loc 5) (.lit (.int 2)))) .nil))) .nil) (.cons (.ifs (.cmp .eq (.idx (.loc 5) (.lit (.int 0))) (.lit (.str [99, 97, 108, 108]))) (.cons (.asg (.nm 4) (.cel (.cat (.loc 4) (.frz (.bi .list (.cons (.idx (.loc 5) (.lit (.int 3))) .nil)))))) .nil) .nil) .nil)) .nil)) .nil)) .nil)
abbrev fb_law_moves_2 : Ss := (.cons (.for_ (.nm 2) (.of (.loc 0)) (.cons (.for_ (.nm 5) (.of (.call f_law_statements (.cons (.idx (.loc 2) (.lit (.int 8))) .nil))) (.cons (.ifs (.cmp .eq (.idx (.loc 5) (.lit (.int 0))) (.lit (.str [99, 97, 108, 108]))) (.cons (.asg (.nm 6) (.idx (.idx (.frz (.comp (.loc 11) (.nm 11) (.of (.loc 0)) (.cmp .eq (.idx (.loc 11) (.lit (.int 0))) (.idx (.loc 5) (.lit (.int 1)))))) (.lit (.int 0))) (.lit (.int 1)))) (.cons (.asg (.nm 7) (.frz (.comp (.idx (.idx (.loc 5) (.lit (.int 2))) (.loc 8)) (.nm 8) (.rng (.cons (.bi .len (.cons (.loc 6) .nil)) .nil)) (.cmp .isIn (.call f_law_key (.cons (.idx (.loc 6) (.loc 8)) .nil)) (.idx (.loc 1) (.idx (.loc 5) (.lit (.int 1)))))))) (.cons (.set (.loc 1) (.idx (.loc 2) (.lit (.int 0))) (.frz (.cat (.idx (.loc 1) (.idx (.loc 2) (.lit (.int 0)))) (.frz (.comp (.bin .add (.lit (.str [35])) (.idx (.loc 10) (.lit (.int 1)))) (.nm 10) (.of (.loc 7)) (.cmp .eq (.idx (.loc 10) (.lit (.int 0))) (.lit (.str [97, 114, 114, 97, 121])))))))) .nil))) .nil) .nil)) .nil)) .nil)
abbrev fb_law_moves_3 : Ss := (.cons (.for_ (.nm 5) (.of (.call f_law_statements (.cons (.idx (.loc 2) (.lit (.int 8))) .nil))) (.cons (.ifs (.cmp .eq (.idx (.loc 5) (.lit (.int 0))) (.lit (.str [99, 97, 108, 108]))) (.cons (.asg (.nm 6) (.idx (.idx (.frz (.comp (.loc 11) (.nm 11) (.of (.loc 0)) (.cmp .eq (.idx (.loc 11) (.lit (.int 0))) (.idx (.loc 5) (.lit (.int 1)))))) (.lit (.int 0))) (.lit (.int 1)))) (.cons (.asg (.nm 7) (.frz (.comp (.idx (.idx (.loc 5) (.lit (.int 2))) (.loc 8)) (.nm 8) (.rng (.cons (.bi .len (.cons (.loc 6) .nil)) .nil)) (.cmp .isIn (.call f_law_key (.cons (.idx (.loc 6) (.loc 8)) .nil)) (.idx (.loc 1) (.idx (.loc 5) (.lit (.int 1)))))))) (.cons (.set (.loc 1) (.idx (.loc 2) (.lit (.int 0))) (.frz (.cat (.idx (.loc 1) (.idx (.loc 2) (.lit (.int 0)))) (.frz (.comp (.bin .add (.lit (.str [35])) (.idx (.loc 10) (.lit (.int 1)))) (.nm 10) (.of (.loc 7)) (.cmp .eq (.idx (.loc 10) (.lit (.int 0))) (.lit (.str [97, 114, 114, 97, 121])))))))) .nil))) .nil) .nil)) .nil)
abbrev fb_law_moves_4 : Ss := (.cons (.ifs (.cmp .eq (.idx (.loc 5) (.lit (.int 0))) (.lit (.str [99, 97, 108, 108]))) (.cons (.asg (.nm 6) (.idx (.idx (.frz (.comp (.loc 11) (.nm 11) (.of (.loc 0)) (.cmp .eq (.idx (.loc 11) (.lit (.int 0))) (.idx (.loc 5) (.lit (.int 1)))))) (.lit (.int 0))) (.lit (.int 1)))) (.cons (.asg (.nm 7) (.frz (.comp (.idx (.idx (.loc 5) (.lit (.int 2))) (.loc 8)) (.nm 8) (.rng (.cons (.bi .len (.cons (.loc 6) .nil)) .nil)) (.cmp .isIn (.call f_law_key (.cons (.idx (.loc 6) (.loc 8)) .nil)) (.idx (.loc 1) (.idx (.loc 5) (.lit (.int 1)))))))) (.cons (.set (.loc 1) (.idx (.loc 2) (.lit (.int 0))) (.frz (.cat (.idx (.loc 1) (.idx (.loc 2) (.lit (.int 0)))) (.frz (.comp (.bin .add (.lit (.str [35])) (.idx (.loc 10) (.lit (.int 1)))) (.nm 10) (.of (.loc 7)) (.cmp .eq (.idx (.loc 10) (.lit (.int 0))) (.lit (.str [97, 114, 114, 97, 121])))))))) .nil))) .nil) .nil)
abbrev fb_law_touches_0 : Ss := (.cons (.asg (.nm 4) (.cel (.disp .nil))) (.cons (.for_ (.nm 5) (.of (.call f_law_statements (.cons (.idx (.loc 2) (.lit (.int 8))) .nil))) (.cons (.ifs (.cmp .eq (.idx (.loc 5) (.lit (.int 0))) (.lit (.str [115, 116, 111, 114, 101]))) (.cons (.expr (.mth .append (.loc 4) (.cons (.idx (.loc 5) (.lit (.int 1))) .nil))) .nil) (.cons (.ifs (.cmp .isIn (.idx (.loc 5) (.lit (.int 0))) (.frz (.disp (.cons (.lit (.str [112, 117, 115, 104])) (.cons (.lit (.str [112, 111, 112])) .nil))))) (.cons (.expr (.mth .append (.loc 4) (.cons (.idx (.loc 5) (.lit (.int 2))) .nil))) .nil) .nil) .nil)) .nil)) (.cons (.set (.loc 1) (.idx (.loc 2) (.lit (.int 0))) (.loc 4)) .nil)))
abbrev fb_law_touches_1 : Ss := (.cons (.ifs (.cmp .eq (.idx (.loc 5) (.lit (.int 0))) (.lit (.str [115, 116, 111, 114, 101]))) (.cons (.expr (.mth .append (.loc 4) (.cons (.idx (.loc 5) (.lit (.int 1))) .nil))) .nil) (.cons (.ifs (.cmp .isIn (.idx (.loc 5) (.lit (.int 0))) (.frz (.disp (.cons (.lit (.str [112, 117, 115, 104])) (.cons (.lit (.str [112, 111, 112])) .nil))))) (.cons (.expr (.mth .append (.loc 4) (.cons (.idx (.loc 5) (.lit (.int 2))) .nil))) .nil) .nil) .nil)) .nil)
abbrev fb_law_touches_2 : Ss := (.cons (.for_ (.nm 2) (.of (.loc 0)) (.cons (.for_ (.nm 5) (.of (.call f_law_statements (.cons (.idx (.loc 2) (.lit (.int 8))) .nil))) (.cons (.ifs (.cmp .eq (.idx (.loc 5) (.lit (.int 0))) (.lit (.str [99, 97, 108, 108]))) (.cons (.asg (.nm 6) (.idx (.call f_law_proc (.cons (.loc 0) (.cons (.idx (.loc 5) (.lit (.int 1))) .nil))) (.lit (.int 1)))) (.cons (.asg (.nm 7) (.frz (.comp (.idx (.idx (.idx (.loc 5) (.lit (.int 2))) (.loc 8)) (.lit (.int 1))) (.nm 8) (.rng (.cons (.bi .len (.cons (.loc 6) .nil)) .nil)) (.cmp .isIn (.idx (.idx (.loc 6) (.loc 8)) (.lit (.int 1))) (.idx (.loc 1) (.idx (.loc 5) (.lit (.int 1)))))))) (.cons (.set (.loc 1) (.idx (.loc 2) (.lit (.int 0))) (.frz (.cat (.idx (.loc 1) (.idx (.loc 2) (.lit (.int 0)))) (.loc 7)))) .nil))) .nil) .nil)) .nil)) .nil)
abbrev fb_law_touches_3 : Ss := (.cons (.for_ (.nm 5) (.of (.call f_law_statements (.cons (.idx (.loc 2) (.lit (.int 8))) .nil))) (.cons (.ifs (.cmp .eq (.idx (.loc 5) (.lit (.int 0))) (.lit (.str [99, 97, 108, 108]))) (.cons (.asg (.nm 6) (.idx (.call f_law_proc (.cons (.loc 0) (.cons (.idx (.loc 5) (.lit (.int 1))) .nil))) (.lit (.int 1)))) (.cons (.asg (.nm 7) (.frz (.comp (.idx (.idx (.idx (.loc 5) (.lit (.int 2))) (.loc 8)) (.lit (.int 1))) (.nm 8) (.rng (.cons (.bi .len (.cons (.loc 6) .nil)) .nil)) (.cmp .isIn (.idx (.idx (.loc 6) (.loc 8)) (.lit (.int 1))) (.idx (.loc 1) (.idx (.loc 5) (.lit (.int 1)))))))) (.cons (.set (.loc 1) (.idx (.loc 2) (.lit (.int 0))) (.frz (.cat (.idx (.loc 1) (.idx (.loc 2) (.lit (.int 0)))) (.loc 7)))) .nil))) .nil) .nil)) .nil)
abbrev fb_law_touches_4 : Ss := (.cons (.ifs (.cmp .eq (.idx (.loc 5) (.lit (.int 0))) (.lit (.str [99, 97, 108, 108]))) (.cons (.asg (.nm 6) (.idx (.call f_law_proc (.cons (.loc 0) (.cons (.idx (.loc 5) (.lit (.int 1))) .nil))) (.lit (.int 1)))) (.cons (.asg (.nm 7) (.frz (.comp (.idx (.idx (.idx (.loc 5) (.lit (.int 2))) (.loc 8)) (.lit (.int 1))) (.nm 8) (.rng (.cons (.bi .len (.cons (.loc 6) .nil)) .nil)) (.cmp .isIn (.idx (.idx (.loc 6) (.loc 8)) (.lit (.int 1))) (.idx (.loc 1) (.idx (.loc 5) (.lit (.int 1)))))))) (.cons (.set (.loc 1) (.idx (.loc 2) (.lit (.int 0))) (.frz (.cat (.idx (.loc 1) (.idx (.loc 2) (.lit (.int 0)))) (.loc 7)))) .nil))) .nil) .nil)
abbrev fblaw_0 : Ss := (.cons (.asg (.nm 3) (.call f_law_wild_core (.cons (.loc 1) .nil))) (.cons (.asg (.nm 4) (.call f_law_moves (.cons (.loc 3) .nil))) (.cons (.asg (.nm 5) (.call f_law_touches (.cons (.loc 3) .nil))) (.cons (.for_ (.nm 6) (.of (.loc 3)) (.cons (.ifs (.inv (.call f_law_same (.cons (.call finputs_of (.cons (.loc 3) (.cons (.idx (.loc 6) (.lit (.int 0))) .nil))) (.cons (.bi .tuple (.cons (.frz (.comp (.bin .add (.lit (.str [64])) (.call f_law_key (.cons (.loc 8) .nil))) (.nm 8) (.of (.idx (.loc 6) (.lit (.int 1)))) .no)) .nil)) .nil)))) (.cons (.ret (.lit (.bl false))) .nil) .nil) (.cons (.ifs (.inv (.call f_law_same (.cons (.call fstates_of (.cons (.loc 3) (.cons (.idx (.loc 6) (.lit (.int 0))) .nil))) (.cons (.bi .tuple (.cons (.call f_law_states (.cons (.loc 6) (.cons (.idx (.loc 4) (.idx (.loc 6) (.lit (.int 0)))) .nil))) .nil)) .nil)))) (.cons (.ret (.lit (.bl false))) .nil) .nil) (.cons (.ifs (.inv (.call f_law_same (.cons (.call foutcomes_of (.cons (.loc 3) (.cons (.idx (.loc 6) (.lit (.int 0))) .nil))) (.cons (.bi .tuple (.cons (.call f_law_outcomes (.cons (.loc 6) (.cons (.idx (.loc 4) (.idx (.loc 6) (.lit (.int 0)))) .nil))) .nil)) .nil)))) (.cons (.ret (.lit (.bl false))) .nil) .nil) (.cons (.asg (.nm 7) (.bi .tuple (.cons (.frz (.comp (.idx (.loc 8) (.lit (.int 1))) (.nm 8) (.of (.idx (.loc 6) (.lit (.int 1)))) (.cmp .isIn (.call f_law_key (.cons (.loc 8) .nil)) (.idx (.loc 4) (.idx (.loc 6) (.lit (.int 0))))))) .nil))) (.cons (.ifs (.inv (.call f_law_same (.cons (.call fmoving_of (.cons (.loc 3) (.cons (.idx (.loc 6) (.lit (.int 0))) .nil))) (.cons (.loc 7) .nil)))) (.cons (.ret (.lit (.bl false))) .nil) .nil) (.cons (.asg (.nm 7) (.bi .tuple (.cons (.frz (.comp (.loc 10) (.tu [9, 10]) (.of (.idx (.loc 6) (.lit (.int 1)))) (.and (.cons (.cmp .eq (.loc 9) (.lit (.str [97, 114, 114, 97, 121]))) (.cons (.cmp .isIn (.loc 10) (.idx (.loc 5) (.idx (.loc 6) (.lit (.int 0))))) .nil))))) .nil))) (.cons (.ifs (.inv (.call f_law_same (.cons (.call ftouched_of (.cons (.loc 3) (.cons (.idx (.loc 6) (.lit (.int 0))) .nil))) (.cons (.loc 7) .nil)))) (.cons (.ret (.lit (.bl false))) .nil) .nil) .nil)))))))) .nil))))
abbrev fblaw_1 : Ss := (.cons (.ifs (.inv (.call f_law_same (.cons (.call finputs_of (.cons (.loc 3) (.cons (.idx (.loc 6) (.lit (.int 0))) .nil))) (.cons (.bi .tuple (.cons (.frz (.comp (.bin .add (.lit (.str [64])) (.call f_law_key (.cons (.loc 8) .nil))) (.nm 8) (.of (.idx (.loc 6) (.lit (.int 1)))) .no)) .nil)) .nil)))) (.cons (.ret (.lit (.bl false))) .nil) .nil) (.cons (.ifs (.inv (.call f_law_same (.cons (.call fstates_of (.cons (.loc 3) (.cons (.idx (.loc 6) (.lit (.int 0))) .nil))) (.cons (.bi .tuple (.cons (.call f_law_states (.cons (.loc 6) (.cons (.idx (.loc 4) (.idx (.loc 6) (.lit (.int 0)))) .nil))) .nil)) .nil)))) (.cons (.ret (.lit (.bl false))) .nil) .nil) (.cons (.ifs (.inv (.call f_law_same (.cons (.call foutcomes_of (.cons (.loc 3) (.cons (.idx (.loc 6) (.lit (.int 0))) .nil))) (.cons (.bi .tuple (.cons (.call f_law_outcomes (.cons (.loc 6) (.cons (.idx (.loc 4) (.idx (.loc 6) (.lit (.int 0)))) .nil))) .nil)) .nil)))) (.cons (.ret (.lit (.bl false))) .nil) .nil) (.cons (.asg (.nm 7) (.bi .tuple (.cons (.frz (.comp (.idx (.loc 8) (.lit (.int 1))) (.nm 8) (.of (.idx (.loc 6) (.lit (.int 1)))) (.cmp .isIn (.call f_law_key (.cons (.loc 8) .nil)) (.idx (.loc 4) (.idx (.loc 6) (.lit (.int 0))))))) .nil))) (.cons (.ifs (.inv (.call f_law_same (.cons (.call fmoving_of (.cons (.loc 3) (.cons (.idx (.loc 6) (.lit (.int 0))) .nil))) (.cons (.loc 7) .nil)))) (.cons (.ret (.lit (.bl false))) .nil) .nil) (.cons (.asg (.nm 7) (.bi .tuple (.cons (.frz (.comp (.loc 10) (.tu [9, 10]) (.of (.idx (.loc 6) (.lit (.int 1)))) (.and (.cons (.cmp .eq (.loc 9) (.lit (.str [97, 114, 114, 97, 121]))) (.cons (.cmp .isIn (.loc 10) (.idx (.loc 5) (.idx (.loc 6) (.lit (.int 0))))) .nil))))) .nil))) (.cons (.ifs (.inv (.call f_law_same (.cons (.call ftouched_of (.cons (.loc 3) (.cons (.idx (.loc 6) (.lit (.int 0))) .nil))) (.cons (.loc 7) .nil)))) (.cons (.ret (.lit (.bl false))) .nil) .nil) .nil)))))))

/-! ### what statements change by themselves -/
def keysOf : PS → List Tx
  | .set x _ => [x]
  | .push _ a => [35 :: a]
  | .pop x a => [x, 35 :: a]
  | .call _ _ ts => ts
  | _ => []
def tchOf : PS → List Tx
  | .push _ a => [a]
  | .store a _ _ => [a]
  | .pop _ a => [a]
  | _ => []
abbrev sl (l : List Tx) : List D := l.map D.str
theorem hash {a : Tx} (h : a.length < 100) : binSem .add (.d (.str [35])) (.d (.str a)) = some (.d (.str (35 :: a))) := by
  simp only [binSem]
  rw [if_pos (by simp only [List.length_cons, List.length_nil]; unfold line; omega)]
  rfl
theorem keys_le {hs : List PH} {h : PH} {u : PS} (o : u.fok hs h) : (keysOf u).length ≤ 2 := by
  cases u with
  | call f as ts =>
    obtain ⟨_, _, _, _, _, _, e⟩ := o
    show ts.length ≤ 2
    omega
  | _ => simp [keysOf]
section
variable {F : Nat → List W → Store → TN.R (W × Store)} {hs : List PH} {h : PH}
theorem hash_ev {a : Tx} {i : Nat} {j : Int} {s : Env} {M : Store} {d : D} (ha : a.length < 100) (hi : s[i]? = some (some (.d d))) (hj : idxSem M (.d d) (.d (.int j)) = some (.d (.str a))) : evE (Gm F) (.bin .add (.lit (.str [35])) (.idx (.loc i) (.lit (.int j)))) s M = .ok (.d (.str (35 :: a)), M) :=
  eve_bin rfl (eve_idx (evE_loc hi) rfl hj) (hash ha)
theorem as_go (ho : h.ok) {w : D} {Q : TN.Flow × Env × Store → Prop} :
    ∀ (l : List PS) (acc : List D), acc.length + 2 * l.length < 5000 → (∀ u ∈ l, u.fok hs h) → Q (.nx, [some (.d w), some (.r 0), none, none, none], [dl (acc ++ sl (l.flatMap keysOf))]) →
      Wp (forLoop (Tg.nm 2).put (fun s M => evSs (Gm F) fbassigned_in_0 s M) [] [some (.d w), some (.r 0), none, none, none] (((PS.ds l).map W.d).map Itm.one) [some (.d w), some (.r 0), none, none, none] [dl acc]) Q
  | [], acc, hl, ok, hq => wpf_nil (by have := hq; simp only [List.flatMap_nil, List.map_nil, List.append_nil] at this; exact this)
  | u :: l, acc, hl, ok, hq => by
    simp only [List.length_cons] at hl
    have ou := ok u (List.mem_cons_self ..)
    have rest : ∀ ds : List D, ds = sl (keysOf u) → Wp (forLoop (Tg.nm 2).put (fun s M => evSs (Gm F) fbassigned_in_0 s M) [] [some (.d w), some (.r 0), none, none, none] (((PS.ds l).map W.d).map Itm.one) [some (.d w), some (.r 0), none, none, none] [dl (acc ++ ds)]) Q := fun ds e => by
      subst e
      have := keys_le ou
      refine as_go ho l _ (by simp only [List.length_append, List.length_map]; omega) (fun v hv => ok v (List.mem_cons_of_mem _ hv)) ?_
      rw [List.flatMap_cons] at hq
      simpa [List.append_assoc] using hq
    have ext : ∀ (e : E) (x y : Option W) (ds : List D), ds.length ≤ 2 → (∃ z, evE (Gm F) e [some (.d w), some (.r 0), some (.d u.d), none, none] [dl acc] = .ok (z, [dl acc]) ∧ seqOf [dl acc] z = some (ds.map W.d)) → Wp (evE (Gm F) (.mth .extend (.loc 1) (.cons e .nil)) [some (.d w), some (.r 0), some (.d u.d), none, none] [dl acc]) fun r => r = (.d .non, [dl (acc ++ ds)]) := fun e x y ds hd he => by
      obtain ⟨z, e1, e2⟩ := he
      refine wpe_ext (G := []) rfl rfl (wpe_ok e1 ⟨[], ds.map W.d, rfl, rfl, e2, ?_, ?_⟩)
      · rw [List.length_map, List.length_map]; unfold line; omega
      · rw [dl_app]; rfl
    rw [PS.ds]
    refine wpf_cons (s1 := [some (.d w), some (.r 0), some (.d u.d), none, none]) rfl ?_
    have fin : ∀ ds : List D, ds = sl (keysOf u) → guard [] [dl acc] [dl (acc ++ ds)] = true ∧ Wp (forLoop (Tg.nm 2).put (fun s M => evSs (Gm F) fbassigned_in_0 s M) [] [some (.d w), some (.r 0), none, none, none] (((PS.ds l).map W.d).map Itm.one) [some (.d w), some (.r 0), none, none, none] [dl (acc ++ ds)]) Q := fun ds e => ⟨rfl, rest ds e⟩
    cases u with
    | set x v =>
      refine wps_ifT (M1 := [dl acc]) (x := .d (.bl true)) rfl rfl ?_
      refine wps_expr ((ext _ none none [.str x] (show 1 ≤ 2 by decide) ⟨.d (.lst [.str x]), rfl, rfl⟩).mono ?_)
      rintro r rfl
      exact wps_nil (wps_nil (fin _ rfl))
    | pop x a =>
      have ha := ho.al ou.2
      refine wps_ifF (M1 := [dl acc]) (x := .d (.bl false)) rfl rfl ?_
      refine wps_ifT (M1 := [dl acc]) (x := .d (.bl true)) rfl rfl ?_
      have ee : evE (Gm F) (.frz (.disp (.cons (.idx (.loc 2) (.lit (.int 1))) (.cons (.bin .add (.lit (.str [35])) (.idx (.loc 2) (.lit (.int 2)))) .nil)))) [some (.d w), some (.r 0), some (.d (PS.pop x a).d), none, none] [dl acc] = .ok (.d (.lst [.str x, .str (35 :: a)]), [dl acc]) :=
        frz_of (by
          show evEs (Gm F) _ _ _ = _
          exact eve_cons (w := .d (.str x)) rfl (eve_one (hash_ev ha rfl rfl)))
      refine wps_expr ((ext _ none none [.str x, .str (35 :: a)] (Nat.le_refl 2) ⟨_, ee, rfl⟩).mono ?_)
      rintro r rfl
      exact wps_nil (wps_nil (wps_nil (fin _ rfl)))
    | push v a =>
      have ha := ho.al ou.2
      refine wps_ifF (M1 := [dl acc]) (x := .d (.bl false)) rfl rfl ?_
      refine wps_ifF (M1 := [dl acc]) (x := .d (.bl false)) rfl rfl ?_
      refine wps_ifT (M1 := [dl acc]) (x := .d (.bl true)) rfl rfl ?_
      refine wps_expr (wpe_app (G := []) rfl rfl (wpe_ok (hash_ev ha rfl rfl) ⟨[], rfl, rfl, by rw [List.length_map]; unfold line; omega, ?_⟩))
      rw [show acc.map W.d ++ [W.d (.str (35 :: a))] = (acc ++ [D.str (35 :: a)]).map W.d by simp]
      exact wps_nil (wps_nil (wps_nil (wps_nil (fin _ rfl))))
    | call f as ts =>
      refine wps_ifF (M1 := [dl acc]) (x := .d (.bl false)) rfl rfl ?_
      refine wps_ifF (M1 := [dl acc]) (x := .d (.bl false)) rfl rfl ?_
      refine wps_ifF (M1 := [dl acc]) (x := .d (.bl false)) rfl rfl ?_
      refine wps_ifT (M1 := [dl acc]) (x := .d (.bl true)) rfl rfl ?_
      refine wps_expr ((ext _ none none (sl ts) (by rw [List.length_map]; exact keys_le ou) ⟨.d (.tup (sl ts)), rfl, rfl⟩).mono ?_)
      rintro r rfl
      exact wps_nil (wps_nil (wps_nil (wps_nil (wps_nil (fin _ rfl)))))
    | _ =>
      refine wps_ifF (M1 := [dl acc]) (x := .d (.bl false)) rfl rfl ?_
      refine wps_ifF (M1 := [dl acc]) (x := .d (.bl false)) rfl rfl ?_
      refine wps_ifF (M1 := [dl acc]) (x := .d (.bl false)) rfl rfl ?_
      refine wps_ifF (M1 := [dl acc]) (x := .d (.bl false)) rfl rfl ?_
      have := fin [] rfl
      rw [List.append_nil] at this
      exact wps_nil (wps_nil (wps_nil (wps_nil (wps_nil this))))
theorem body_of {p : PP} {k n : Nat} {i : Nat} {s : Env} {M : Store} (hF : F = run prog (k + 3)) (hb : bodyOk hs h p.body) (hi : s[i]? = some (some (.d p.d))) : evI (Gm F) (.of (.call fstatements_in (.cons (.idx (.loc i) (.lit (.int 8))) .nil))) s M = .ok (((PS.ds (PS.fls p.body)).map W.d).map Itm.one, [], M) := by
  have e0 : evEs (Gm F) (.cons (.idx (.loc i) (.lit (.int 8))) .nil) s M = .ok ([.d (.tup (PS.ds p.body))], M) := eve_one (eve_idx (M1 := M) (M2 := M) (evE_loc hi) rfl rfl)
  have hl := hb.l
  simp only [evI, evE, e0, TN.R.bind_ok]
  show (((F fstatements_in [.d (.tup (PS.ds p.body))] M).from _).bind _) = _
  rw [hF, st_ok 2 (k := k) p.body hb.d (by omega)]
  rfl
theorem lbody_of {p : PP} {k n : Nat} {i : Nat} {s : Env} {M : Store} (hF : F = run prog (k + 3)) (hb : bodyOk hs h p.body) (hi : s[i]? = some (some (.d p.d))) : evI (Gm F) (.of (.call f_law_statements (.cons (.idx (.loc i) (.lit (.int 8))) .nil))) s M = .ok (((PS.ds (PS.fls p.body)).map W.d).map Itm.one, [], M) := by
  have e0 : evEs (Gm F) (.cons (.idx (.loc i) (.lit (.int 8))) .nil) s M = .ok ([.d (.tup (PS.ds p.body))], M) := eve_one (eve_idx (M1 := M) (M2 := M) (evE_loc hi) rfl rfl)
  have hl := hb.l
  simp only [evI, evE, e0, TN.R.bind_ok]
  show (((F f_law_statements [.d (.tup (PS.ds p.body))] M).from _).bind _) = _
  rw [hF, lst_ok 2 (k := k) p.body hb.d (by omega)]
  rfl
end
abbrev keysB (p : PP) : List Tx := (PS.fls p.body).flatMap keysOf
abbrev tchB (p : PP) : List Tx := (PS.fls p.body).flatMap tchOf
theorem as_ok {k : Nat} {p : PP} {hs : List PH} (ho : p.h.ok) (hb : bodyOk hs p.h p.body) (M : Store) : run prog (k + 4) fassigned_in [.d p.d] M = .ok (.r M.length, M ++ [dl (sl (keysB p))]) := by
  refine run_pureK (fd := dassigned_in) rfl rfl rfl rfl (fun F hF => ?_) M
  refine wps_asg (wpe_ok (w := .r 0) (M1 := [dl []]) rfl ⟨[some (.d p.d), some (.r 0), none, none, none], rfl, ?_⟩)
  refine wps_for (body_of (n := 0) hF hb rfl) ?_
  have hl := hb.l
  refine as_go ho (PS.fls p.body) [] (by simp only [List.length_nil]; omega) hb.f ?_
  exact wps_ret (wpe_loc ⟨_, rfl, rfl, by rw [List.nil_append]⟩)
section
variable {F : Nat → List W → Store → TN.R (W × Store)}
theorem ch_go {w : D} {Q : TN.Flow × Env × Store → Prop} :
    ∀ (l : List PS) (acc : List D), acc.length + l.length < 5000 → Q (.nx, [some (.d w), some (.r 0), none], [dl (acc ++ sl (l.flatMap tchOf))]) →
      Wp (forLoop (Tg.nm 2).put (fun s M => evSs (Gm F) fbchanged_in_0 s M) [] [some (.d w), some (.r 0), none] (((PS.ds l).map W.d).map Itm.one) [some (.d w), some (.r 0), none] [dl acc]) Q
  | [], acc, hl, hq => wpf_nil (by have := hq; simp only [List.flatMap_nil, List.map_nil, List.append_nil] at this; exact this)
  | u :: l, acc, hl, hq => by
    simp only [List.length_cons] at hl
    rw [PS.ds]
    refine wpf_cons (s1 := [some (.d w), some (.r 0), some (.d u.d)]) rfl ?_
    have fin : ∀ ds : List D, ds.length ≤ 1 → ds = sl (tchOf u) → guard [] [dl acc] [dl (acc ++ ds)] = true ∧ Wp (forLoop (Tg.nm 2).put (fun s M => evSs (Gm F) fbchanged_in_0 s M) [] [some (.d w), some (.r 0), none] (((PS.ds l).map W.d).map Itm.one) [some (.d w), some (.r 0), none] [dl (acc ++ ds)]) Q := fun ds hd e => ⟨rfl, by
      refine ch_go l _ (by simp only [List.length_append]; omega) ?_
      rw [List.flatMap_cons] at hq
      rw [e]
      simpa [List.append_assoc] using hq⟩
    have app : ∀ (a : Tx) (e : E), evE (Gm F) e [some (.d w), some (.r 0), some (.d u.d)] [dl acc] = .ok (.d (.str a), [dl acc]) → tchOf u = [a] → Wp (evSs (Gm F) (.cons (.expr (.mth .append (.loc 1) (.cons e .nil))) .nil) [some (.d w), some (.r 0), some (.d u.d)] [dl acc]) fun r => r = (.nx, [some (.d w), some (.r 0), some (.d u.d)], [dl (acc ++ [.str a])]) := fun a e he _ => by
      refine wps_expr (wpe_app (G := []) rfl rfl (wpe_ok he ⟨[], rfl, rfl, by rw [List.length_map]; unfold line; omega, wps_nil ?_⟩))
      rw [show acc.map W.d ++ [W.d (.str a)] = (acc ++ [D.str a]).map W.d by simp]
      rfl
    cases u with
    | push v a =>
      refine wps_ifT (M1 := [dl acc]) (x := .d (.bl true)) rfl rfl ((app a _ rfl rfl).mono ?_)
      rintro r rfl
      exact wps_nil (fin _ (Nat.le_refl 1) rfl)
    | store a v w' =>
      refine wps_ifT (M1 := [dl acc]) (x := .d (.bl true)) rfl rfl ((app a _ rfl rfl).mono ?_)
      rintro r rfl
      exact wps_nil (fin _ (Nat.le_refl 1) rfl)
    | pop x a =>
      refine wps_ifT (M1 := [dl acc]) (x := .d (.bl true)) rfl rfl ((app a _ rfl rfl).mono ?_)
      rintro r rfl
      exact wps_nil (fin _ (Nat.le_refl 1) rfl)
    | _ =>
      refine wps_ifN (M1 := [dl acc]) (x := .d (.bl false)) rfl rfl ?_
      have := fin [] (Nat.zero_le 1) rfl
      rw [List.append_nil] at this
      exact wps_nil this
end
theorem ch_ok {k : Nat} {p : PP} {hs : List PH} (hb : bodyOk hs p.h p.body) (M : Store) : run prog (k + 4) fchanged_in [.d p.d] M = .ok (.r M.length, M ++ [dl (sl (tchB p))]) := by
  refine run_pureK (fd := dchanged_in) rfl rfl rfl rfl (fun F hF => ?_) M
  refine wps_asg (wpe_ok (w := .r 0) (M1 := [dl []]) rfl ⟨[some (.d p.d), some (.r 0), none], rfl, ?_⟩)
  refine wps_for (body_of (n := 0) hF hb rfl) ?_
  have hl := hb.l
  refine ch_go (PS.fls p.body) [] (by simp only [List.length_nil]; omega) ?_
  exact wps_ret (wpe_loc ⟨_, rfl, rfl, by rw [List.nil_append]⟩)
end TN


namespace TN
/-! ### a procedure by its name -/
theorem nd_filter : ∀ {ps : List PP}, (ps.map fun p => p.h.nm).Nodup → ∀ {p : PP}, p ∈ ps → ps.filter (fun q => decide (q.h.nm = p.h.nm)) = [p]
  | q :: ps, nd, p, hp => by
    rw [List.map_cons, List.nodup_cons] at nd
    rcases List.mem_cons.mp hp with rfl | hp
    · rw [List.filter_cons_of_pos (by simp)]
      rw [List.filter_eq_nil_iff.mpr fun r hr => ?_]
      intro e
      have e := of_decide_eq_true e
      exact nd.1 (by rw [← e]; exact List.mem_map.mpr ⟨r, hr, rfl⟩)
    · rw [List.filter_cons_of_neg ?_]
      · exact nd_filter nd.2 hp
      · intro e
        have e := of_decide_eq_true e
        exact nd.1 (by rw [e]; exact List.mem_map.mpr ⟨p, hp, rfl⟩)
def knm (x : Tx) : D → Bool
  | .tup (.str y :: _) => decide (y = x)
  | _ => false
abbrev coreD (ps : List PP) : D := .tup (ps.map PP.d)
theorem knm_filter (x : Tx) : ∀ ps : List PP, (ps.map PP.d).filter (knm x) = (ps.filter (fun q => decide (q.h.nm = x))).map PP.d
  | [] => rfl
  | q :: ps => by
    rw [List.map_cons, List.filter_cons, List.filter_cons, knm_filter x ps]
    show (if decide (q.h.nm = x) = true then _ else _) = _
    split <;> rfl
section
variable {F : Nat → List W → Store → TN.R (W × Store)}
theorem pn_comp {ps : List PP} (C : CoreOk ps) {p : PP} (hp : p ∈ ps) {v : Nat} {e : E} {s : Env} {M : Store} (h0 : s[0]? = some (some (.d (coreD ps)))) (hv : ∀ X, ((wipe s [v]).set v (some X))[v]? = some (some X)) (he : ∀ X, evE (Gm F) e ((wipe s [v]).set v (some X)) M = .ok (.d (.str p.h.nm), M)) :
    evE (Gm F) (.frz (.comp (.loc v) (.nm v) (.of (.loc 0)) (.cmp .eq (.idx (.loc v) (.lit (.int 0))) e))) s M = .ok (.d (.lst [p.d]), M) := by
  have e2 : evI (Gm F) (.of (.loc 0)) s M = .ok (((ps.map PP.d).map W.d).map Itm.one, [], M) := by
    simp only [evI, evE_loc h0, TN.R.bind_ok]; rfl
  have h : Wp (evE (Gm F) (.frz (.comp (.loc v) (.nm v) (.of (.loc 0)) (.cmp .eq (.idx (.loc v) (.lit (.int 0))) e))) s M) fun r => r = (.d (.lst [p.d]), M) := by
    refine wpe_frz (wpl_comp e2 ?_)
    have hn := C.n1
    refine comp_fltN (knm p.h.nm) id (ps.map PP.d) [] (by simp only [List.length_map, List.length_nil]; omega) (fun d hd => ?_) ⟨_, toDs_map _, ?_⟩
    · obtain ⟨q, hq, rfl⟩ := List.mem_map.mp hd
      refine ⟨_, rfl, ?_, fun _ => evE_loc (hv _)⟩
      have e3 : evE (Gm F) (.cmp .eq (.idx (.loc v) (.lit (.int 0))) e) ((wipe s [v]).set v (some (.d q.d))) M = .ok (.d (.bl (decide (q.h.nm = p.h.nm))), M) :=
        eve_cmp (eve_idx (M1 := M) (M2 := M) (x := .d q.d) (y := .d (.int 0)) (w := .d (.str q.h.nm)) (evE_loc (hv _)) rfl rfl) (he _) rfl
      show (evE (Gm F) (.cmp .eq (.idx (.loc v) (.lit (.int 0))) e) ((wipe s [v]).set v (some (.d q.d))) M).bind _ = _
      rw [e3]
      rfl
    · rw [knm_filter, nd_filter C.nd hp]; rfl
  obtain ⟨r, e, rfl⟩ := h.get
  exact e
end
theorem pn_ok {k : Nat} {ps : List PP} (C : CoreOk ps) {p : PP} (hp : p ∈ ps) (M : Store) : run prog (k + 1) fproc_named [.d (coreD ps), .d (.str p.h.nm)] M = .ok (.d p.d, M) := by
  refine run_pureW (fd := dproc_named) rfl rfl rfl rfl fun F hF => ?_
  refine wps_ret (wpe_ok (eve_idx (M1 := []) (M2 := []) (w := .d p.d) (pn_comp C hp (v := 2) rfl (fun X => rfl) (fun X => rfl)) rfl rfl) rfl)
theorem lpn_ok {k : Nat} {ps : List PP} (C : CoreOk ps) {p : PP} (hp : p ∈ ps) (M : Store) : run prog (k + 1) f_law_proc [.d (coreD ps), .d (.str p.h.nm)] M = .ok (.d p.d, M) := by
  refine run_pureW (fd := d_law_proc) rfl rfl rfl rfl fun F hF => ?_
  refine wps_ret (wpe_ok (eve_idx (M1 := []) (M2 := []) (w := .d p.d) (pn_comp C hp (v := 2) rfl (fun X => rfl) (fun X => rfl)) rfl rfl) rfl)
/-! ### what is read of a table -/
def Reads (M : Store) (w0 : W) (ps : List PP) (T : Tx → List Tx) : Prop := ∀ p ∈ ps, ∃ w, idxSem M w0 (.d (.str p.h.nm)) = some w ∧ ∀ x, inOf M (.d (.str x)) w = some (decide (x ∈ T p.h.nm))
theorem get_more {M X : Store} {n : Nat} {c : Cell} (h : M[n]? = some c) : (M ++ X)[n]? = some c := by
  rw [List.getElem?_append_left (List.getElem?_eq_some_iff.mp h).1, h]
theorem Reads.more {M X : Store} {w0 : W} {ps : List PP} {T : Tx → List Tx} (h : Reads M w0 ps T) : Reads (M ++ X) w0 ps T := fun p hp => by
  obtain ⟨w, h1, h2⟩ := h p hp
  refine ⟨w, ?_, fun x => ?_⟩
  · cases w0 with
    | d d => cases d <;> exact h1
    | r n =>
      simp only [idxSem] at h1 ⊢
      cases hc : M[n]? with
      | none => rw [hc] at h1; cases h1
      | some c => rw [hc] at h1; rw [get_more hc]; exact h1
  · have h2 := h2 x
    cases w with
    | d d => cases d <;> exact h2
    | r n =>
      simp only [inOf] at h2 ⊢
      cases hc : M[n]? with
      | none => rw [hc] at h2; cases h2
      | some c => rw [hc] at h2; rw [get_more hc]; exact h2
theorem any_str (l : List Tx) (x : Tx) : ((sl l).any fun z => z.eqv (.str x)) = decide (x ∈ l) := by
  induction l with
  | nil => rfl
  | cons y l ih =>
    simp only [sl, List.map_cons, List.any_cons, List.mem_cons] at ih ⊢
    rw [ih]
    show (decide (y = x) || _) = _
    by_cases h : y = x
    · subst h; simp
    · have : x ≠ y := fun e => h e.symm
      simp [h, this]
theorem inD_sl (l : List Tx) (x : Tx) : inD (.str x) (sl l) = some (decide (x ∈ l)) := by
  unfold inD
  rw [if_pos, any_str]
  simp [D.flat]
/-! ### arrays that are passed on -/
def passK (key : Tx → Tx) (tab : List Tx) : List PIt → List PA → List Tx
  | i :: is, .ar a :: as => if i.arr = true ∧ key i.nm ∈ tab then key a :: passK key tab is as else passK key tab is as
  | _ :: is, .va _ :: as => passK key tab is as
  | _, _ => []
def itemsOf (ps : List PP) (f : Tx) : List PIt := match ps.filter (fun q => decide (q.h.nm = f)) with
  | p :: _ => p.h.items
  | [] => []
theorem itemsOf_ok {ps : List PP} (C : CoreOk ps) {p : PP} (hp : p ∈ ps) : itemsOf ps p.h.nm = p.h.items := by
  unfold itemsOf
  rw [nd_filter C.nd hp]
def psdOf (key : Tx → Tx) (ps : List PP) (T : Tx → List Tx) : PS → List Tx
  | .call f as _ => passK key (T f) (itemsOf ps f) as
  | _ => []
theorem passK_len (key : Tx → Tx) (tab : List Tx) : ∀ (is : List PIt) (as : List PA), (passK key tab is as).length ≤ is.length
  | [], _ => by simp [passK]
  | i :: is, [] => by simp [passK]
  | i :: is, .ar a :: as => by
    have := passK_len key tab is as
    rw [passK]
    split
    · simp only [List.length_cons]; omega
    · simp only [List.length_cons]; omega
  | i :: is, .va v :: as => by
    have := passK_len key tab is as
    rw [passK]
    simp only [List.length_cons]; omega
theorem mem_heads {ps : List PP} {g : PH} (h : g ∈ ps.map PP.h) : ∃ q ∈ ps, q.h = g := List.mem_map.mp h
theorem psd_len {key : Tx → Tx} {ps : List PP} (C : CoreOk ps) {T : Tx → List Tx} {h : PH} {u : PS} (o : u.fok (ps.map PP.h) h) : (psdOf key ps T u).length ≤ 3 := by
  cases u with
  | call f as ts =>
    obtain ⟨g, hg, rfl, _⟩ := o
    obtain ⟨q, hq, rfl⟩ := mem_heads hg
    have := passK_len key (T q.h.nm) (itemsOf ps q.h.nm) as
    rw [itemsOf_ok C hq] at this
    have hn := (C.ho q hq).ni
    show (passK key (T q.h.nm) (itemsOf ps q.h.nm) as).length ≤ 3
    rw [itemsOf_ok C hq]
    omega
  | _ => exact Nat.zero_le _
/-- a call of a def by cells; its answer is a list of its own, the cells stay -/
theorem run_cellsE {P : Pr} {k f : Nat} {ws : List W} {M : Store} {fd : FD} {ds : List D} (hf : P.fd f = some fd) (hl : ws.length = fd.pars) (hp : ws.all W.pure = false) (hk : fd.keep = false) (hM : M.all (Cell.below M.length) = true)
    (h : ∀ F, F = run P k → Wp (evSs ⟨F, P.con, P.wf⟩ fd.body (startEnv fd.N.length ws) M) fun r => r.1 = .ret (.r M.length) ∧ r.2.2 = M ++ [dl ds]) : run P (k + 1) f ws M = .ok (.d (.lst ds), M) := by
  obtain ⟨⟨fl, s, M'⟩, e, hd, hm⟩ := (h _ rfl).get
  simp only at hd hm
  subst hd hm
  have ht : (M ++ [dl ds]).take M.length = M := List.take_left' rfl
  unfold run
  simp only [hf, hl, if_true, hp, Bool.false_eq_true, if_false, e, hk, fin, ht, hM]
  rw [frz_r (get_last M _) (Nat.le_refl _)]
  rfl
section
variable {F : Nat → List W → Store → TN.R (W × Store)} {k : Nat} {ps : List PP} {T : Tx → List Tx} {w0 : W} {G : Store} {h : PH}
abbrev poS (ps : List PP) (w0 : W) (n : Nat) (p st : D) (X : Option W) : Env := [some (.d (coreD ps)), some w0, some (.d p), some (.r n), some (.d st), X, none, none]
theorem po_in (hr : Reads G w0 ps T) (ho : h.ok) {q : PP} (hq : q ∈ ps) (qo : q.h.ok) {pd : D} {as : List PA} {ts : List Tx} {X : Option W} {Q : TN.Flow × Env × Store → Prop} :
    ∀ (is : List PIt) (bs : List PA) (acc : List D), bs.map PA.isA = is.map PIt.arr → (∀ i ∈ is, i.nm.length < 100) → (∀ x ∈ bs, x.ok h) → acc.length + is.length < 5000 → Q (.nx, poS ps w0 G.length pd (PS.call q.h.nm as ts).d X, G ++ [dl (acc ++ sl (passK (35 :: ·) (T q.h.nm) is bs))]) →
      Wp (forLoop (Tg.tu [6, 7]).put (fun s M => evSs (Gm F) fbpassed_on_1 s M) [] (poS ps w0 G.length pd (PS.call q.h.nm as ts).d X) (zipItems ((is.map PIt.d).map W.d) ((bs.map PA.d).map W.d)) (poS ps w0 G.length pd (PS.call q.h.nm as ts).d X) (G ++ [dl acc])) Q
  | [], [], acc, hk, hi, hb, hl, hQ => wpf_nil (by have := hQ; simp only [passK, List.map_nil, List.append_nil] at this; cases X <;> exact this)
  | [], _ :: _, acc, hk, hi, hb, hl, hQ => by cases hk
  | _ :: _, [], acc, hk, hi, hb, hl, hQ => by cases hk
  | ⟨false, x⟩ :: is, .ar a :: bs, acc, hk, hi, hb, hl, hQ => by simp [PA.isA] at hk
  | ⟨true, x⟩ :: is, .va v :: bs, acc, hk, hi, hb, hl, hQ => by simp [PA.isA] at hk
  | ⟨false, x⟩ :: is, .va v :: bs, acc, hk, hi, hb, hl, hQ => by
    simp only [List.length_cons] at hl
    simp only [List.map_cons, List.cons.injEq] at hk
    refine wpf_cons (s1 := [some (.d (coreD ps)), some w0, some (.d pd), some (.r G.length), some (.d (PS.call q.h.nm as ts).d), X, some (.d (PIt.d ⟨false, x⟩)), some (.d v.d)]) rfl ?_
    refine wps_ifN (M1 := G ++ [dl acc]) (x := .d (.bl false)) rfl rfl (wps_nil ⟨rfl, ?_⟩)
    have := po_in hr ho hq qo (pd := pd) (as := as) (ts := ts) (X := X) is bs acc hk.2 (fun i h => hi i (List.mem_cons_of_mem _ h)) (fun y hy => hb y (List.mem_cons_of_mem _ hy)) (by omega) hQ
    cases X <;> exact this
  | ⟨true, x⟩ :: is, .ar a :: bs, acc, hk, hi, hb, hl, hQ => by
    simp only [List.length_cons] at hl
    simp only [List.map_cons, List.cons.injEq] at hk
    have hx : x.length < 100 := hi ⟨true, x⟩ (List.mem_cons_self ..)
    have ha : a.length < 100 := ho.al (hb (.ar a) (List.mem_cons_self ..))
    have go : ∀ acc2 : List D, acc2 = acc ++ sl (if (35 :: x) ∈ T q.h.nm then [35 :: a] else []) → Wp (forLoop (Tg.tu [6, 7]).put (fun s M => evSs (Gm F) fbpassed_on_1 s M) [] (poS ps w0 G.length pd (PS.call q.h.nm as ts).d X) (zipItems ((is.map PIt.d).map W.d) ((bs.map PA.d).map W.d)) (poS ps w0 G.length pd (PS.call q.h.nm as ts).d X) (G ++ [dl acc2])) Q := fun acc2 e => by
      refine po_in hr ho hq qo is bs acc2 hk.2 (fun i h => hi i (List.mem_cons_of_mem _ h)) (fun y hy => hb y (List.mem_cons_of_mem _ hy)) ?_ ?_
      · rw [e]
        split <;> simp only [List.length_append, List.length_map, List.length_singleton, List.length_nil] <;> omega
      · rw [passK] at hQ
        rw [e, List.append_assoc]
        by_cases hm : (35 :: x) ∈ T q.h.nm
        · rw [if_pos ⟨rfl, hm⟩] at hQ
          rw [if_pos hm]
          exact hQ
        · rw [if_neg (fun c => hm c.2)] at hQ
          rw [if_neg hm]
          exact hQ
    refine wpf_cons (s1 := [some (.d (coreD ps)), some w0, some (.d pd), some (.r G.length), some (.d (PS.call q.h.nm as ts).d), X, some (.d (PIt.d ⟨true, x⟩)), some (.d (PA.ar a).d)]) rfl ?_
    obtain ⟨w, h1, h2⟩ := hr.more (X := [dl acc]) q hq
    have e1 : evE (Gm F) (.cmp .isIn (.bin .add (.lit (.str [35])) (.idx (.loc 6) (.lit (.int 1)))) (.idx (.loc 1) (.idx (.loc 4) (.lit (.int 1))))) [some (.d (coreD ps)), some w0, some (.d pd), some (.r G.length), some (.d (PS.call q.h.nm as ts).d), X, some (.d (PIt.d ⟨true, x⟩)), some (.d (PA.ar a).d)] (G ++ [dl acc]) = .ok (.d (.bl (decide ((35 :: x) ∈ T q.h.nm))), G ++ [dl acc]) :=
      eve_cmp (hash_ev hx rfl rfl) (eve_idx (M1 := G ++ [dl acc]) (y := .d (.str q.h.nm)) (evE_loc rfl) rfl h1) (h2 _)
    refine wps_ifW (wpe_and2 (wpe_ok (w := .d (.bl true)) (M1 := G ++ [dl acc]) rfl ⟨true, rfl, ?_⟩))
    refine wpt_t (wpe_ok e1 ⟨_, rfl, ?_⟩)
    by_cases hm : (35 :: x) ∈ T q.h.nm
    · rw [if_pos (decide_eq_true hm)]
      refine wps_expr (wpe_app (G := G) rfl rfl (wpe_ok (hash_ev ha rfl rfl) ⟨G, rfl, rfl, by rw [List.length_map]; unfold line; omega, ?_⟩))
      rw [show acc.map W.d ++ [W.d (.str (35 :: a))] = (acc ++ [D.str (35 :: a)]).map W.d by simp]
      have := go (acc ++ [D.str (35 :: a)]) (by rw [if_pos hm]; rfl)
      refine wps_nil (wps_nil ⟨rfl, ?_⟩)
      cases X <;> exact this
    · rw [if_neg (by rw [decide_eq_false hm]; decide)]
      have := go acc (by rw [if_neg hm]; simp)
      refine wps_nil (wps_nil ⟨rfl, ?_⟩)
      cases X <;> exact this
theorem po_go (hF : F = run prog (k + 3)) (C : CoreOk ps) (hr : Reads G w0 ps T) (ho : h.ok) {pd : D} {Q : TN.Flow × Env × Store → Prop} :
    ∀ (l : List PS) (acc : List D), acc.length + 3 * l.length < 4000 → (∀ u ∈ l, u.fok (ps.map PP.h) h) → Q (.nx, [some (.d (coreD ps)), some w0, some (.d pd), some (.r G.length), none, none, none, none], G ++ [dl (acc ++ sl (l.flatMap (psdOf (35 :: ·) ps T)))]) →
      Wp (forLoop (Tg.nm 4).put (fun s M => evSs (Gm F) fbpassed_on_0 s M) [] [some (.d (coreD ps)), some w0, some (.d pd), some (.r G.length), none, none, none, none] (((PS.ds l).map W.d).map Itm.one) [some (.d (coreD ps)), some w0, some (.d pd), some (.r G.length), none, none, none, none] (G ++ [dl acc])) Q
  | [], acc, hl, ok, hq => wpf_nil (by have := hq; simp only [List.flatMap_nil, List.map_nil, List.append_nil] at this; exact this)
  | u :: l, acc, hl, ok, hq => by
    simp only [List.length_cons] at hl
    have ou := ok u (List.mem_cons_self ..)
    have rest : ∀ ds : List D, ds = sl (psdOf (35 :: ·) ps T u) → Wp (forLoop (Tg.nm 4).put (fun s M => evSs (Gm F) fbpassed_on_0 s M) [] [some (.d (coreD ps)), some w0, some (.d pd), some (.r G.length), none, none, none, none] (((PS.ds l).map W.d).map Itm.one) [some (.d (coreD ps)), some w0, some (.d pd), some (.r G.length), none, none, none, none] (G ++ [dl (acc ++ ds)])) Q := fun ds e => by
      subst e
      have := psd_len (key := (35 :: ·)) (T := T) C ou
      refine po_go hF C hr ho l _ (by simp only [List.length_append, List.length_map]; omega) (fun v hv => ok v (List.mem_cons_of_mem _ hv)) ?_
      rw [List.flatMap_cons] at hq
      simpa [List.append_assoc] using hq
    rw [PS.ds]
    refine wpf_cons (s1 := poS ps w0 G.length pd u.d none) rfl ?_
    cases u with
    | call f as ts =>
      obtain ⟨g, hg, rfl, hk, hb, _, _⟩ := ou
      obtain ⟨q, hq2, rfl⟩ := mem_heads hg
      have qo := C.ho q hq2
      have hn := qo.ni
      refine wps_ifT (M1 := G ++ [dl acc]) (x := .d (.bl true)) rfl rfl ?_
      have ep : evE (Gm F) (.idx (.call fproc_named (.cons (.loc 0) (.cons (.idx (.loc 4) (.lit (.int 1))) .nil))) (.lit (.int 1))) (poS ps w0 G.length pd (PS.call q.h.nm as ts).d none) (G ++ [dl acc]) = .ok (.d (.tup (q.h.items.map PIt.d)), G ++ [dl acc]) := by
        refine eve_idx (M1 := G ++ [dl acc]) (M2 := G ++ [dl acc]) (x := .d q.d) (y := .d (.int 1)) ?_ rfl rfl
        show (F fproc_named [.d (coreD ps), .d (.str q.h.nm)] (G ++ [dl acc])).from _ = _
        rw [hF, pn_ok C hq2]
        rfl
      refine wps_asg (wpe_ok ep ⟨poS ps w0 G.length pd (PS.call q.h.nm as ts).d (some (.d (.tup (q.h.items.map PIt.d)))), rfl, ?_⟩)
      refine wps_for (items := zipItems ((q.h.items.map PIt.d).map W.d) ((as.map PA.d).map W.d)) (gs := []) (M1 := G ++ [dl acc]) rfl ?_
      refine po_in hr ho hq2 qo q.h.items as acc hk (fun i hi => qo.ln i (List.mem_append_left _ hi)) hb (by omega) ?_
      refine wps_nil (wps_nil ⟨rfl, ?_⟩)
      exact rest _ (by show _ = sl (passK _ (T q.h.nm) (itemsOf ps q.h.nm) as); rw [itemsOf_ok C hq2])
    | _ =>
      refine wps_ifN (M1 := G ++ [dl acc]) (x := .d (.bl false)) rfl rfl (wps_nil ⟨rfl, ?_⟩)
      have := rest [] rfl
      rw [List.append_nil] at this
      exact this
end
abbrev poL (ps : List PP) (T : Tx → List Tx) (p : PP) : List Tx := (PS.fls p.body).flatMap (psdOf (35 :: ·) ps T)
theorem po_ok {k : Nat} {ps : List PP} (C : CoreOk ps) {p : PP} (hp : p ∈ ps) {M : Store} {n : Nat} (hM : M.all (Cell.below M.length) = true) {T : Tx → List Tx} (hr : Reads M (.r n) ps T) :
    run prog (k + 4) fpassed_on [.d (coreD ps), .r n, .d p.d] M = .ok (.d (.lst (sl (poL ps T p))), M) := by
  refine run_cellsE (fd := dpassed_on) rfl rfl rfl rfl hM fun F hF => ?_
  have hb := C.bo p hp
  have hl := hb.l
  refine wps_asg (wpe_ok (w := .r M.length) (M1 := M ++ [dl []]) rfl ⟨[some (.d (coreD ps)), some (.r n), some (.d p.d), some (.r M.length), none, none, none, none], rfl, ?_⟩)
  refine wps_for (body_of (n := 0) hF hb rfl) ?_
  refine po_go hF C hr (C.ho p hp) (PS.fls p.body) [] (by simp only [List.length_nil]; omega) hb.f ?_
  exact wps_ret (wpe_loc ⟨_, rfl, rfl, by rw [List.nil_append]⟩)
end TN


namespace TN
section
variable {F : Nat → List W → Store → TN.R (W × Store)} {k : Nat} {ps : List PP} {T : Tx → List Tx} {w0 : W} {G : Store} {h : PH}
abbrev ptS (ps : List PP) (w0 : W) (n : Nat) (p st : D) : Env := [some (.d (coreD ps)), some w0, some (.d p), some (.r n), some (.d st), none, none]
theorem pt_in (hr : Reads G w0 ps T) (ho : h.ok) {q : PP} (hq : q ∈ ps) (qo : q.h.ok) {pd : D} {as : List PA} {ts : List Tx} {Q : TN.Flow × Env × Store → Prop} :
    ∀ (is : List PIt) (bs : List PA) (acc : List D), bs.map PA.isA = is.map PIt.arr → (∀ i ∈ is, i.nm.length < 100) → (∀ x ∈ bs, x.ok h) → acc.length + is.length < 5000 → Q (.nx, ptS ps w0 G.length pd (PS.call q.h.nm as ts).d, G ++ [dl (acc ++ sl (passK id (T q.h.nm) is bs))]) →
      Wp (forLoop (Tg.tu [5, 6]).put (fun s M => evSs (Gm F) fbpassed_to_1 s M) [] (ptS ps w0 G.length pd (PS.call q.h.nm as ts).d) (zipItems ((is.map PIt.d).map W.d) ((bs.map PA.d).map W.d)) (ptS ps w0 G.length pd (PS.call q.h.nm as ts).d) (G ++ [dl acc])) Q
  | [], [], acc, hk, hi, hb, hl, hQ => wpf_nil (by have := hQ; simp only [passK, List.map_nil, List.append_nil] at this; exact this)
  | [], _ :: _, acc, hk, hi, hb, hl, hQ => by cases hk
  | _ :: _, [], acc, hk, hi, hb, hl, hQ => by cases hk
  | ⟨false, x⟩ :: is, .ar a :: bs, acc, hk, hi, hb, hl, hQ => by simp [PA.isA] at hk
  | ⟨true, x⟩ :: is, .va v :: bs, acc, hk, hi, hb, hl, hQ => by simp [PA.isA] at hk
  | ⟨false, x⟩ :: is, .va v :: bs, acc, hk, hi, hb, hl, hQ => by
    simp only [List.length_cons] at hl
    simp only [List.map_cons, List.cons.injEq] at hk
    refine wpf_cons (s1 := [some (.d (coreD ps)), some w0, some (.d pd), some (.r G.length), some (.d (PS.call q.h.nm as ts).d), some (.d (PIt.d ⟨false, x⟩)), some (.d v.d)]) rfl ?_
    refine wps_ifN (M1 := G ++ [dl acc]) (x := .d (.bl false)) rfl rfl (wps_nil ⟨rfl, ?_⟩)
    have := pt_in hr ho hq qo (pd := pd) (as := as) (ts := ts) is bs acc hk.2 (fun i h => hi i (List.mem_cons_of_mem _ h)) (fun y hy => hb y (List.mem_cons_of_mem _ hy)) (by omega) hQ
    exact this
  | ⟨true, x⟩ :: is, .ar a :: bs, acc, hk, hi, hb, hl, hQ => by
    simp only [List.length_cons] at hl
    simp only [List.map_cons, List.cons.injEq] at hk
    have hx : x.length < 100 := hi ⟨true, x⟩ (List.mem_cons_self ..)
    have ha : a.length < 100 := ho.al (hb (.ar a) (List.mem_cons_self ..))
    have go : ∀ acc2 : List D, acc2 = acc ++ sl (if (x) ∈ T q.h.nm then [a] else []) → Wp (forLoop (Tg.tu [5, 6]).put (fun s M => evSs (Gm F) fbpassed_to_1 s M) [] (ptS ps w0 G.length pd (PS.call q.h.nm as ts).d) (zipItems ((is.map PIt.d).map W.d) ((bs.map PA.d).map W.d)) (ptS ps w0 G.length pd (PS.call q.h.nm as ts).d) (G ++ [dl acc2])) Q := fun acc2 e => by
      refine pt_in hr ho hq qo is bs acc2 hk.2 (fun i h => hi i (List.mem_cons_of_mem _ h)) (fun y hy => hb y (List.mem_cons_of_mem _ hy)) ?_ ?_
      · rw [e]
        split <;> simp only [List.length_append, List.length_map, List.length_singleton, List.length_nil] <;> omega
      · rw [passK] at hQ
        rw [e, List.append_assoc]
        by_cases hm : (x) ∈ T q.h.nm
        · rw [if_pos ⟨rfl, hm⟩] at hQ
          rw [if_pos hm]
          exact hQ
        · rw [if_neg (fun c => hm c.2)] at hQ
          rw [if_neg hm]
          exact hQ
    refine wpf_cons (s1 := [some (.d (coreD ps)), some w0, some (.d pd), some (.r G.length), some (.d (PS.call q.h.nm as ts).d), some (.d (PIt.d ⟨true, x⟩)), some (.d (PA.ar a).d)]) rfl ?_
    obtain ⟨w, h1, h2⟩ := hr.more (X := [dl acc]) q hq
    have e1 : evE (Gm F) (.cmp .isIn (.idx (.loc 5) (.lit (.int 1))) (.idx (.loc 1) (.idx (.loc 4) (.lit (.int 1))))) [some (.d (coreD ps)), some w0, some (.d pd), some (.r G.length), some (.d (PS.call q.h.nm as ts).d), some (.d (PIt.d ⟨true, x⟩)), some (.d (PA.ar a).d)] (G ++ [dl acc]) = .ok (.d (.bl (decide ((x) ∈ T q.h.nm))), G ++ [dl acc]) :=
      eve_cmp (eve_idx (M1 := G ++ [dl acc]) (M2 := G ++ [dl acc]) (w := .d (.str x)) (evE_loc rfl) rfl rfl) (eve_idx (M1 := G ++ [dl acc]) (y := .d (.str q.h.nm)) (evE_loc rfl) rfl h1) (h2 _)
    refine wps_ifW (wpe_and2 (wpe_ok (w := .d (.bl true)) (M1 := G ++ [dl acc]) rfl ⟨true, rfl, ?_⟩))
    refine wpt_t (wpe_ok e1 ⟨_, rfl, ?_⟩)
    by_cases hm : (x) ∈ T q.h.nm
    · rw [if_pos (decide_eq_true hm)]
      refine wps_expr (wpe_app (G := G) rfl rfl (wpe_ok (w := .d (.str a)) (M1 := G ++ [dl acc]) rfl ⟨G, rfl, rfl, by rw [List.length_map]; unfold line; omega, ?_⟩))
      rw [show acc.map W.d ++ [W.d (.str (a))] = (acc ++ [D.str (a)]).map W.d by simp]
      have := go (acc ++ [D.str (a)]) (by rw [if_pos hm]; rfl)
      refine wps_nil (wps_nil ⟨rfl, ?_⟩)
      exact this
    · rw [if_neg (by rw [decide_eq_false hm]; decide)]
      have := go acc (by rw [if_neg hm]; simp)
      refine wps_nil (wps_nil ⟨rfl, ?_⟩)
      exact this
theorem pt_go (hF : F = run prog (k + 3)) (C : CoreOk ps) (hr : Reads G w0 ps T) (ho : h.ok) {pd : D} {Q : TN.Flow × Env × Store → Prop} :
    ∀ (l : List PS) (acc : List D), acc.length + 3 * l.length < 4000 → (∀ u ∈ l, u.fok (ps.map PP.h) h) → Q (.nx, [some (.d (coreD ps)), some w0, some (.d pd), some (.r G.length), none, none, none], G ++ [dl (acc ++ sl (l.flatMap (psdOf id ps T)))]) →
      Wp (forLoop (Tg.nm 4).put (fun s M => evSs (Gm F) fbpassed_to_0 s M) [] [some (.d (coreD ps)), some w0, some (.d pd), some (.r G.length), none, none, none] (((PS.ds l).map W.d).map Itm.one) [some (.d (coreD ps)), some w0, some (.d pd), some (.r G.length), none, none, none] (G ++ [dl acc])) Q
  | [], acc, hl, ok, hq => wpf_nil (by have := hq; simp only [List.flatMap_nil, List.map_nil, List.append_nil] at this; exact this)
  | u :: l, acc, hl, ok, hq => by
    simp only [List.length_cons] at hl
    have ou := ok u (List.mem_cons_self ..)
    have rest : ∀ ds : List D, ds = sl (psdOf id ps T u) → Wp (forLoop (Tg.nm 4).put (fun s M => evSs (Gm F) fbpassed_to_0 s M) [] [some (.d (coreD ps)), some w0, some (.d pd), some (.r G.length), none, none, none] (((PS.ds l).map W.d).map Itm.one) [some (.d (coreD ps)), some w0, some (.d pd), some (.r G.length), none, none, none] (G ++ [dl (acc ++ ds)])) Q := fun ds e => by
      subst e
      have := psd_len (key := id) (T := T) C ou
      refine pt_go hF C hr ho l _ (by simp only [List.length_append, List.length_map]; omega) (fun v hv => ok v (List.mem_cons_of_mem _ hv)) ?_
      rw [List.flatMap_cons] at hq
      simpa [List.append_assoc] using hq
    rw [PS.ds]
    refine wpf_cons (s1 := ptS ps w0 G.length pd u.d) rfl ?_
    cases u with
    | call f as ts =>
      obtain ⟨g, hg, rfl, hk, hb, _, _⟩ := ou
      obtain ⟨q, hq2, rfl⟩ := mem_heads hg
      have qo := C.ho q hq2
      have hn := qo.ni
      refine wps_ifT (M1 := G ++ [dl acc]) (x := .d (.bl true)) rfl rfl ?_
      have ep : evE (Gm F) (.idx (.call fproc_named (.cons (.loc 0) (.cons (.idx (.loc 4) (.lit (.int 1))) .nil))) (.lit (.int 1))) (ptS ps w0 G.length pd (PS.call q.h.nm as ts).d) (G ++ [dl acc]) = .ok (.d (.tup (q.h.items.map PIt.d)), G ++ [dl acc]) := by
        refine eve_idx (M1 := G ++ [dl acc]) (M2 := G ++ [dl acc]) (x := .d q.d) (y := .d (.int 1)) ?_ rfl rfl
        show (F fproc_named [.d (coreD ps), .d (.str q.h.nm)] (G ++ [dl acc])).from _ = _
        rw [hF, pn_ok C hq2]
        rfl
      have ez : evI (Gm F) (.zip (.idx (.call fproc_named (.cons (.loc 0) (.cons (.idx (.loc 4) (.lit (.int 1))) .nil))) (.lit (.int 1))) (.idx (.loc 4) (.lit (.int 2)))) (ptS ps w0 G.length pd (PS.call q.h.nm as ts).d) (G ++ [dl acc]) = .ok (zipItems ((q.h.items.map PIt.d).map W.d) ((as.map PA.d).map W.d), [], G ++ [dl acc]) := by
        simp only [evI, ep, TN.R.bind_ok]
        rfl
      refine wps_for ez ?_
      refine pt_in hr ho hq2 qo q.h.items as acc hk (fun i hi => qo.ln i (List.mem_append_left _ hi)) hb (by omega) ?_
      refine wps_nil (wps_nil ⟨rfl, ?_⟩)
      exact rest _ (by show _ = sl (passK _ (T q.h.nm) (itemsOf ps q.h.nm) as); rw [itemsOf_ok C hq2])
    | _ =>
      refine wps_ifN (M1 := G ++ [dl acc]) (x := .d (.bl false)) rfl rfl (wps_nil ⟨rfl, ?_⟩)
      have := rest [] rfl
      rw [List.append_nil] at this
      exact this
end
abbrev ptL (ps : List PP) (T : Tx → List Tx) (p : PP) : List Tx := (PS.fls p.body).flatMap (psdOf id ps T)
theorem pt_ok {k : Nat} {ps : List PP} (C : CoreOk ps) {p : PP} (hp : p ∈ ps) {M : Store} {n : Nat} (hM : M.all (Cell.below M.length) = true) {T : Tx → List Tx} (hr : Reads M (.r n) ps T) :
    run prog (k + 4) fpassed_to [.d (coreD ps), .r n, .d p.d] M = .ok (.d (.lst (sl (ptL ps T p))), M) := by
  refine run_cellsE (fd := dpassed_to) rfl rfl rfl rfl hM fun F hF => ?_
  have hb := C.bo p hp
  have hl := hb.l
  refine wps_asg (wpe_ok (w := .r M.length) (M1 := M ++ [dl []]) rfl ⟨[some (.d (coreD ps)), some (.r n), some (.d p.d), some (.r M.length), none, none, none], rfl, ?_⟩)
  refine wps_for (body_of (n := 0) hF hb rfl) ?_
  refine pt_go hF C hr (C.ho p hp) (PS.fls p.body) [] (by simp only [List.length_nil]; omega) hb.f ?_
  exact wps_ret (wpe_loc ⟨_, rfl, rfl, by rw [List.nil_append]⟩)
end TN


namespace TN
/-! ### tables that grow -/
abbrev Tb := Tx → List Tx
def upd (T : Tb) (nm y : Tx) : Tb := fun x => if x = nm then T x ++ [y] else T x
def Sub (T S : Tb) : Prop := ∀ nm x, x ∈ T nm → x ∈ S nm
theorem Sub.refl (T : Tb) : Sub T T := fun _ _ h => h
theorem Sub.trans {T S R : Tb} (h : Sub T S) (g : Sub S R) : Sub T R := fun nm x hx => g nm x (h nm x hx)
theorem sub_upd (T : Tb) (nm y : Tx) : Sub T (upd T nm y) := fun n x hx => by
  unfold upd
  split
  · exact List.mem_append_left _ hx
  · exact hx
theorem upd_mem (T : Tb) (nm y : Tx) : y ∈ upd T nm y nm := by
  unfold upd
  rw [if_pos rfl]
  simp
theorem upd_sub {T S : Tb} {nm y : Tx} (h : Sub T S) (hy : y ∈ S nm) : Sub (upd T nm y) S := fun n x hx => by
  unfold upd at hx
  split at hx
  · rename_i e
    rcases List.mem_append.mp hx with hx | hx
    · exact h n x hx
    · rw [List.mem_singleton.mp hx, e]; exact hy
  · exact h n x hx
section
variable (ps : List PP) (U : PP → List Tx)
def lack (T : Tb) (p : PP) : Nat := ((U p).filter fun y => decide (y ∉ T p.h.nm)).length
def miss (T : Tb) : List PP → Nat
  | [] => 0
  | p :: ps => lack U T p + miss T ps
end
section
variable {ps : List PP} {U : PP → List Tx}
theorem filter_le {α : Type} (f g : α → Bool) (h : ∀ x, f x = true → g x = true) : ∀ l : List α, (l.filter f).length ≤ (l.filter g).length
  | [] => Nat.le_refl _
  | x :: l => by
    have := filter_le f g h l
    rw [List.filter_cons, List.filter_cons]
    cases hf : f x with
    | true => rw [h x hf]; simpa using this
    | false =>
      cases g x with
      | true => simp; omega
      | false => simpa using this
theorem filter_lt {α : Type} (f g : α → Bool) (h : ∀ x, f x = true → g x = true) {y : α} (hf : f y = false) (hg : g y = true) : ∀ l : List α, y ∈ l → (l.filter f).length < (l.filter g).length
  | x :: l, hy => by
    have le := filter_le f g h l
    rw [List.filter_cons, List.filter_cons]
    rcases List.mem_cons.mp hy with rfl | hy
    · rw [hf, hg]; simp; omega
    · have lt := filter_lt f g h hf hg l hy
      cases hfx : f x with
      | true => rw [h x hfx]; simpa using lt
      | false =>
        cases g x with
        | true => simp; omega
        | false => simpa using lt
theorem lack_le {T S : Tb} (h : Sub T S) (p : PP) : lack U S p ≤ lack U T p := filter_le _ _ (fun x hx => by simp only [decide_eq_true_eq] at hx ⊢; exact fun hm => hx (h _ _ hm)) _
theorem miss_le {T S : Tb} (h : Sub T S) : ∀ ps : List PP, miss U S ps ≤ miss U T ps
  | [] => Nat.le_refl _
  | p :: ps => Nat.add_le_add (lack_le h p) (miss_le h ps)
theorem miss_lt {T S : Tb} (h : Sub T S) {p : PP} {y : Tx} (hy : y ∈ U p) (h1 : y ∉ T p.h.nm) (h2 : y ∈ S p.h.nm) : ∀ ps : List PP, p ∈ ps → miss U S ps < miss U T ps
  | q :: ps, hp => by
    show lack U S q + miss U S ps < lack U T q + miss U T ps
    rcases List.mem_cons.mp hp with rfl | hp
    · have a : lack U S p < lack U T p := filter_lt _ _ (fun x hx => by simp only [decide_eq_true_eq] at hx ⊢; exact fun hm => hx (h _ _ hm)) (by simp [h2]) (by simp [h1]) _ hy
      have b := miss_le (U := U) h ps
      omega
    · have a := lack_le (U := U) h q
      have b := miss_lt h hy h1 h2 ps hp
      omega
theorem miss_bound (hU : ∀ p ∈ ps, (U p).length ≤ 7) (T : Tb) : miss U T ps ≤ 7 * ps.length := by
  induction ps with
  | nil => exact Nat.zero_le _
  | cons p ps ih =>
    have := ih fun q hq => hU q (List.mem_cons_of_mem _ hq)
    have h1 : lack U T p ≤ 7 := Nat.le_trans (List.length_filter_le _ _) (hU p (List.mem_cons_self ..))
    simp only [miss, List.length_cons]
    omega
/-! ### the program's rounds -/
def addN (nm : Tx) : List Tx → Tb → Bool → Tb × Bool
  | [], T, b => (T, b)
  | y :: ys, T, b => if y ∈ T nm then addN nm ys T b else addN nm ys (upd T nm y) true
theorem addN_sub (nm : Tx) : ∀ (ys : List Tx) (T : Tb) (b : Bool), Sub T (addN nm ys T b).1
  | [], T, b => Sub.refl T
  | y :: ys, T, b => by
    rw [addN]
    split
    · exact addN_sub nm ys T b
    · exact (sub_upd T nm y).trans (addN_sub nm ys _ _)
theorem addN_le {nm : Tx} {S : Tb} : ∀ {ys : List Tx} {T : Tb} {b : Bool}, Sub T S → (∀ y ∈ ys, y ∈ S nm) → Sub (addN nm ys T b).1 S
  | [], T, b, h, hy => h
  | y :: ys, T, b, h, hy => by
    rw [addN]
    split
    · exact addN_le h fun z hz => hy z (List.mem_cons_of_mem _ hz)
    · exact addN_le (upd_sub h (hy y (List.mem_cons_self ..))) fun z hz => hy z (List.mem_cons_of_mem _ hz)
theorem addN_tr (nm : Tx) : ∀ (ys : List Tx) (T : Tb), (addN nm ys T true).2 = true
  | [], T => rfl
  | y :: ys, T => by
    rw [addN]
    split
    · exact addN_tr nm ys T
    · exact addN_tr nm ys _
theorem addN_no {nm : Tx} : ∀ {ys : List Tx} {T : Tb} {b : Bool}, (addN nm ys T b).2 = false → b = false ∧ (addN nm ys T b).1 = T ∧ ∀ y ∈ ys, y ∈ T nm
  | [], T, b, h => ⟨h, rfl, fun y hy => by cases hy⟩
  | y :: ys, T, b, h => by
    rw [addN] at h ⊢
    split at h
    · rename_i hm
      rw [if_pos hm]
      obtain ⟨h1, h2, h3⟩ := addN_no h
      exact ⟨h1, h2, fun z hz => by
        rcases List.mem_cons.mp hz with rfl | hz
        · exact hm
        · exact h3 z hz⟩
    · rw [addN_tr] at h; cases h
theorem addN_yes {nm : Tx} : ∀ {ys : List Tx} {T : Tb}, (addN nm ys T false).2 = true → ∃ y ∈ ys, y ∉ T nm ∧ y ∈ (addN nm ys T false).1 nm
  | [], T, h => by cases h
  | y :: ys, T, h => by
    rw [addN] at h ⊢
    split at h
    · rename_i hm
      rw [if_pos hm]
      obtain ⟨z, hz, h1, h2⟩ := addN_yes h
      exact ⟨z, List.mem_cons_of_mem _ hz, h1, h2⟩
    · rename_i hm
      rw [if_neg hm]
      exact ⟨y, List.mem_cons_self .., hm, addN_sub nm ys _ _ nm y (upd_mem T nm y)⟩
def Mono {α : Type} (pd : Tb → α → List Tx) : Prop := ∀ (T S : Tb) (s : α) (y : Tx), Sub T S → y ∈ pd T s → y ∈ pd S s
variable {po : Tb → PP → List Tx}
def rnd (po : Tb → PP → List Tx) : List PP → Tb → Bool → Tb × Bool
  | [], T, b => (T, b)
  | p :: ps, T, b => rnd po ps (addN p.h.nm (po T p) T b).1 (addN p.h.nm (po T p) T b).2
theorem rnd_sub : ∀ (l : List PP) (T : Tb) (b : Bool), Sub T (rnd po l T b).1
  | [], T, b => Sub.refl T
  | p :: l, T, b => (addN_sub _ _ T b).trans (rnd_sub l _ _)
theorem rnd_le (hm : Mono po) {S : Tb} : ∀ {l : List PP} {T : Tb} {b : Bool}, Sub T S → (∀ p ∈ l, ∀ y ∈ po S p, y ∈ S p.h.nm) → Sub (rnd po l T b).1 S
  | [], T, b, h, hc => h
  | p :: l, T, b, h, hc => rnd_le (l := l) hm (addN_le h fun y hy => hc p (List.mem_cons_self ..) y (hm _ _ _ _ h hy)) fun q hq => hc q (List.mem_cons_of_mem _ hq)
theorem rnd_tr : ∀ (l : List PP) (T : Tb), (rnd po l T true).2 = true
  | [], T => rfl
  | p :: l, T => by
    rw [rnd, addN_tr]
    exact rnd_tr l _
theorem rnd_no : ∀ {l : List PP} {T : Tb} {b : Bool}, (rnd po l T b).2 = false → b = false ∧ (rnd po l T b).1 = T ∧ ∀ p ∈ l, ∀ y ∈ po T p, y ∈ T p.h.nm
  | [], T, b, h => ⟨h, rfl, fun p hp => by cases hp⟩
  | p :: l, T, b, h => by
    rw [rnd] at h ⊢
    obtain ⟨h1, h2, h3⟩ := rnd_no h
    obtain ⟨g1, g2, g3⟩ := addN_no h1
    rw [g2] at h2 h3
    rw [g2]
    refine ⟨g1, h2, fun q hq => ?_⟩
    rcases List.mem_cons.mp hq with rfl | hq
    · exact g3
    · exact h3 q hq
theorem rnd_yes (hU : ∀ p ∈ ps, ∀ T, ∀ y ∈ po T p, y ∈ U p) : ∀ {l : List PP} {T : Tb}, (∀ p ∈ l, p ∈ ps) → (rnd po l T false).2 = true → miss U (rnd po l T false).1 ps < miss U T ps
  | [], T, hl, h => by cases h
  | p :: l, T, hl, h => by
    rw [rnd] at h ⊢
    cases hb : (addN p.h.nm (po T p) T false).2 with
    | true =>
      obtain ⟨y, hy, h1, h2⟩ := addN_yes hb
      have := miss_lt (U := U) (addN_sub p.h.nm (po T p) T false) (hU p (hl p (List.mem_cons_self ..)) T y hy) h1 h2 ps (hl p (List.mem_cons_self ..))
      exact Nat.lt_of_le_of_lt (miss_le (rnd_sub l _ _) ps) this
    | false =>
      rw [hb] at h
      obtain ⟨_, g2, _⟩ := addN_no hb
      rw [g2] at h ⊢
      exact rnd_yes hU (fun q hq => hl q (List.mem_cons_of_mem _ hq)) h
/-- what the tables are: closed, and least -/
structure Least (ps : List PP) (po : Tb → PP → List Tx) (T0 T : Tb) : Prop where
  a : Sub T0 T
  b : ∀ C : Tb, Sub T0 C → (∀ p ∈ ps, ∀ y ∈ po C p, y ∈ C p.h.nm) → Sub T C
  c : ∀ p ∈ ps, ∀ y ∈ po T p, y ∈ T p.h.nm
theorem Least.same {T0 T S : Tb} (h : Least ps po T0 T) (g : Least ps po T0 S) (nm x : Tx) : x ∈ T nm ↔ x ∈ S nm := ⟨h.b S g.a g.c nm x, g.b T h.a h.c nm x⟩
/-! ### the law's rounds -/
/-- a step of the law: what a statement passes on -/
def lst1 (pd : Tb → PS → List Tx) (nm : Tx) : List PS → Tb → Tb
  | [], T => T
  | s :: l, T => lst1 pd nm l (fun x => if x = nm then T x ++ pd T s else T x)
def lrnd (pd : Tb → PS → List Tx) : List PP → Tb → Tb
  | [], T => T
  | p :: l, T => lrnd pd l (lst1 pd p.h.nm (PS.fls p.body) T)
def lrnds (pd : Tb → PS → List Tx) (ps : List PP) : Nat → Tb → Tb
  | 0, T => T
  | n + 1, T => lrnds pd ps n (lrnd pd ps T)
variable {pd : Tb → PS → List Tx}
theorem app_sub {T : Tb} {nm : Tx} {l : List Tx} : Sub T (fun x => if x = nm then T x ++ l else T x) := fun n x hx => by
  show x ∈ if n = nm then _ else _
  split
  · exact List.mem_append_left _ hx
  · exact hx
theorem app_le {T S : Tb} {nm : Tx} {l : List Tx} (h : Sub T S) (hl : ∀ y ∈ l, y ∈ S nm) : Sub (fun x => if x = nm then T x ++ l else T x) S := fun n x hx => by
  have hx : x ∈ if n = nm then T n ++ l else T n := hx
  split at hx
  · rename_i e
    rcases List.mem_append.mp hx with hx | hx
    · exact h n x hx
    · rw [e]; exact hl x hx
  · exact h n x hx
theorem lst1_sub (nm : Tx) : ∀ (l : List PS) (T : Tb), Sub T (lst1 pd nm l T)
  | [], T => Sub.refl T
  | s :: l, T => app_sub.trans (lst1_sub nm l _)
theorem lst1_le (hm : Mono pd) {nm : Tx} {S : Tb} : ∀ {l : List PS} {T : Tb}, Sub T S → (∀ s ∈ l, ∀ y ∈ pd S s, y ∈ S nm) → Sub (lst1 pd nm l T) S
  | [], T, h, hc => h
  | s :: l, T, h, hc => lst1_le (l := l) hm (app_le h fun y hy => hc s (List.mem_cons_self ..) y (hm _ _ _ _ h hy)) fun q hq => hc q (List.mem_cons_of_mem _ hq)
theorem lst1_has (hm : Mono pd) {nm : Tx} : ∀ {l : List PS} {T : Tb}, ∀ s ∈ l, ∀ y ∈ pd T s, y ∈ lst1 pd nm l T nm
  | u :: l, T, s, hs, y, hy => by
    rcases List.mem_cons.mp hs with rfl | hs
    · refine lst1_sub nm l _ nm y ?_
      show y ∈ if nm = nm then _ else _
      rw [if_pos rfl]
      exact List.mem_append_right _ hy
    · exact lst1_has hm s hs y (hm _ _ _ _ app_sub hy)
theorem lrnd_sub : ∀ (l : List PP) (T : Tb), Sub T (lrnd pd l T)
  | [], T => Sub.refl T
  | p :: l, T => (lst1_sub _ _ T).trans (lrnd_sub l _)
theorem lrnd_le (hm : Mono pd) {S : Tb} : ∀ {l : List PP} {T : Tb}, Sub T S → (∀ p ∈ l, ∀ s ∈ PS.fls p.body, ∀ y ∈ pd S s, y ∈ S p.h.nm) → Sub (lrnd pd l T) S
  | [], T, h, hc => h
  | p :: l, T, h, hc => lrnd_le (l := l) hm (lst1_le (nm := p.h.nm) (l := PS.fls p.body) hm h (hc p (List.mem_cons_self ..))) fun q hq => hc q (List.mem_cons_of_mem _ hq)
theorem lrnd_has (hm : Mono pd) : ∀ {l : List PP} {T : Tb}, ∀ p ∈ l, ∀ s ∈ PS.fls p.body, ∀ y ∈ pd T s, y ∈ lrnd pd l T p.h.nm
  | q :: l, T, p, hp, s, hs, y, hy => by
    rcases List.mem_cons.mp hp with rfl | hp
    · exact lrnd_sub l _ _ y (lst1_has hm s hs y hy)
    · exact lrnd_has hm p hp s hs y (hm _ _ _ _ (lst1_sub _ _ T) hy)
theorem lrnds_sub : ∀ (n : Nat) (T : Tb), Sub T (lrnds pd ps n T)
  | 0, T => Sub.refl T
  | n + 1, T => (lrnd_sub ps T).trans (lrnds_sub n _)
theorem lrnds_le (hm : Mono pd) {S : Tb} : ∀ {n : Nat} {T : Tb}, Sub T S → (∀ p ∈ ps, ∀ s ∈ PS.fls p.body, ∀ y ∈ pd S s, y ∈ S p.h.nm) → Sub (lrnds pd ps n T) S
  | 0, T, h, hc => h
  | n + 1, T, h, hc => lrnds_le (n := n) hm (lrnd_le hm h hc) hc
def Clo (pd : Tb → PS → List Tx) (ps : List PP) (T : Tb) : Prop := ∀ p ∈ ps, ∀ s ∈ PS.fls p.body, ∀ y ∈ pd T s, y ∈ T p.h.nm
theorem clo_rnd (hm : Mono pd) {T : Tb} (h : Clo pd ps T) : Clo pd ps (lrnd pd ps T) := fun p hp s hs y hy =>
  lrnd_sub ps T _ _ (h p hp s hs y (hm _ _ _ _ (lrnd_le hm (Sub.refl T) h) hy))
theorem clo_rnds (hm : Mono pd) : ∀ (n : Nat) {T : Tb}, Clo pd ps T → Clo pd ps (lrnds pd ps n T)
  | 0, T, h => h
  | n + 1, T, h => clo_rnds hm n (clo_rnd hm h)
theorem clo_of (hm : Mono pd) (hU : ∀ p ∈ ps, ∀ s ∈ PS.fls p.body, ∀ T, ∀ y ∈ pd T s, y ∈ U p) : ∀ (n : Nat) {T : Tb}, miss U T ps < n → Clo pd ps (lrnds pd ps n T)
  | 0, T, h => absurd h (Nat.not_lt_zero _)
  | n + 1, T, h => by
    by_cases hc : Clo pd ps T
    · exact clo_rnds hm (n + 1) hc
    · refine clo_of hm hU n ?_
      have : ∃ p, p ∈ ps ∧ ∃ s, s ∈ PS.fls p.body ∧ ∃ y, y ∈ pd T s ∧ y ∉ T p.h.nm := by
        refine Classical.byContradiction fun e => hc fun p hp s hs y hy => Classical.byContradiction fun q => e ⟨p, hp, s, hs, y, hy, q⟩
      obtain ⟨p, hp, s, hs, y, hy, hn⟩ := this
      have := miss_lt (U := U) (lrnd_sub ps T) (hU p hp s hs T y hy) hn (lrnd_has hm p hp s hs y hy) ps hp
      omega
theorem least_law (hm : Mono pd) (hU : ∀ p ∈ ps, ∀ s ∈ PS.fls p.body, ∀ T, ∀ y ∈ pd T s, y ∈ U p) (hU7 : ∀ p ∈ ps, (U p).length ≤ 7) (h2 : ps.length ≤ 2) (T0 : Tb) : Least ps (fun T p => (PS.fls p.body).flatMap (pd T)) T0 (lrnds pd ps 20 T0) where
  a := lrnds_sub 20 T0
  b := fun C h1 hc => lrnds_le hm h1 fun p hp s hs y hy => hc p hp y (List.mem_flatMap.mpr ⟨s, hs, hy⟩)
  c := fun p hp y hy => by
    obtain ⟨s, hs, hy⟩ := List.mem_flatMap.mp hy
    have := miss_bound hU7 T0
    exact clo_of hm hU 20 (by omega) p hp s hs y hy
theorem passK_mono (key : Tx → Tx) {t1 t2 : List Tx} (h : ∀ x ∈ t1, x ∈ t2) : ∀ (is : List PIt) (as : List PA), ∀ y ∈ passK key t1 is as, y ∈ passK key t2 is as
  | [], _, y, hy => by simp [passK] at hy
  | i :: is, [], y, hy => by simp [passK] at hy
  | i :: is, .va v :: as, y, hy => by
    rw [passK] at hy ⊢
    exact passK_mono key h is as y hy
  | i :: is, .ar a :: as, y, hy => by
    rw [passK] at hy ⊢
    by_cases c1 : i.arr = true ∧ key i.nm ∈ t1
    · rw [if_pos c1] at hy
      rw [if_pos ⟨c1.1, h _ c1.2⟩]
      rcases List.mem_cons.mp hy with rfl | hy
      · exact List.mem_cons_self ..
      · exact List.mem_cons_of_mem _ (passK_mono key h is as y hy)
    · rw [if_neg c1] at hy
      have := passK_mono key h is as y hy
      split
      · exact List.mem_cons_of_mem _ this
      · exact this
theorem psd_mono {key : Tx → Tx} {T S : Tb} {s : PS} {y : Tx} (h : Sub T S) (hy : y ∈ psdOf key ps T s) : y ∈ psdOf key ps S s := by
  cases s with
  | call f as ts => exact passK_mono key (h f) _ as y hy
  | _ => cases hy
theorem passK_in (key : Tx → Tx) {t : List Tx} {h : PH} : ∀ (is : List PIt) (as : List PA), (∀ x ∈ as, x.ok h) → ∀ y ∈ passK key t is as, y ∈ h.arrays.map key
  | [], _, ho, y, hy => by simp [passK] at hy
  | i :: is, [], ho, y, hy => by simp [passK] at hy
  | i :: is, .va v :: as, ho, y, hy => by
    rw [passK] at hy
    exact passK_in key is as (fun x hx => ho x (List.mem_cons_of_mem _ hx)) y hy
  | i :: is, .ar a :: as, ho, y, hy => by
    rw [passK] at hy
    have rest := passK_in key (t := t) is as (fun x hx => ho x (List.mem_cons_of_mem _ hx)) y
    split at hy
    · rcases List.mem_cons.mp hy with rfl | hy
      · exact List.mem_map.mpr ⟨a, ho (.ar a) (List.mem_cons_self ..), rfl⟩
      · exact rest hy
    · exact rest hy
theorem psd_in {key : Tx → Tx} {T : Tb} {s : PS} {h : PH} {hs : List PH} (o : s.fok hs h) {y : Tx} (hy : y ∈ psdOf key ps T s) : y ∈ h.arrays.map key := by
  cases s with
  | call f as ts =>
    obtain ⟨_, _, _, _, hb, _⟩ := o
    exact passK_in key _ as hb y hy
  | _ => cases hy
end
end TN


namespace TN
section
variable {F : Nat → List W → Store → TN.R (W × Store)}
theorem wpe_dcel {Γ : Ctx} {s : Env} {M M1 : Store} {ek ev : E} {tg : Tg} {it : I} {items : List Itm} {gs : List Nat} {Q : W × Store → Prop} (h1 : evI Γ it s M = .ok (items, gs, M1)) (h : Wp (dcLoop (fun x => tg.put x (wipe s tg.slots)) (fun s M => evE Γ ek s M) (fun s M => evE Γ ev s M) gs items M1 [] []) fun r => Q (.r r.2.length, r.2 ++ [.dct r.1.1 r.1.2])) : Wp (evE Γ (.dcel (.comp ek ev tg it)) s M) Q := by
  obtain ⟨⟨⟨ks, vs⟩, M2⟩, e, hq⟩ := h.get
  have e2 : evDc Γ (.comp ek ev tg it) s M = .ok ((ks, vs), M2) := by
    simp only [evDc, h1, TN.R.bind_ok, e]
    rfl
  simp only [evE, e2, TN.R.bind_ok, wp_ok]
  exact hq
theorem wpd_consG {M M2 : Store} {bt : Itm → Option Env} {ek ev : Env → Store → TN.R (W × Store)} {x : Itm} {xs : List Itm} {ks : List Ky} {vs : List W} {s1 : Env} {d : D} {w : W} {k : Ky} {Q : (List Ky × List W) × Store → Prop} (h1 : bt x = some s1) (h2 : ek s1 M = .ok (.d d, M)) (h3 : ev s1 M = .ok (w, M2)) (hk : kyOf d = some k) (hl : ks.length < line)
    (h : Wp (dcLoop bt ek ev [] xs M2 (dputK k w ks vs).1 (dputK k w ks vs).2) Q) : Wp (dcLoop bt ek ev [] (x :: xs) M ks vs) Q := by
  simp only [dcLoop, h1, h2, h3, hk, TN.R.of_some, TN.R.bind_ok, guard_nil, Bool.true_and, decide_eq_true hl, if_true]
  exact h
theorem run_pureF {P : Pr} {k f : Nat} {ws : List W} {fd : FD} {d : D} {s : Env} {M' : Store} {w : W} (hf : P.fd f = some fd) (hl : ws.length = fd.pars) (hp : ws.all W.pure = true) (hk : fd.keep = false)
    (h : evSs ⟨run P k, P.con, P.wf⟩ fd.body (startEnv fd.N.length ws) [] = .ok (.ret w, s, M')) (hz : frzW M' 0 (M'.length + 1) w = some d) (M : Store) : run P (k + 1) f ws M = .ok (.d d, M) := by
  unfold run
  simp only [hf, hl, if_true, hp, h, hk, fin, hz, TN.R.of_some, TN.R.bind_ok]
theorem wps_whlQ {Γ : Ctx} {s : Env} {M : Store} {c : E} {b ss : Ss} {Q : TN.Flow × Env × Store → Prop} (h : Wp (whlLoop (fun s M => (evTest Γ c s M).from s) (fun s M => evSs Γ b s M) s Γ.wf s M) fun r => match r.1 with | .nx => Wp (evSs Γ ss r.2.1 r.2.2) Q | _ => Q r) : Wp (evSs Γ (.cons (.whl c b) ss) s M) Q := by
  simp only [evSs, evS, wp_bind]
  refine h.mono fun r hr => ?_
  obtain ⟨f, s, M⟩ := r
  cases f <;> exact hr
theorem wpw_step {c : Env → Store → TN.R (Bool × Store)} {b : Env → Store → TN.R (TN.Flow × Env × Store)} {s0 s : Env} {k : Nat} {M : Store} {Q : TN.Flow × Env × Store → Prop} (h1 : c s M = .ok (true, M)) (h : Wp (b s M) fun r => r.1 = .nx ∧ Wp (whlLoop c b s0 k (mask s0 r.2.1) r.2.2) Q) : Wp (whlLoop c b s0 (k + 1) s M) Q := by
  obtain ⟨⟨fl, s2, M2⟩, e, hf, h2⟩ := h.get
  simp only at hf h2
  subst hf
  simp only [whlLoop, h1, TN.R.bind_ok, if_true, e]
  exact h2
theorem wpw_end {c : Env → Store → TN.R (Bool × Store)} {b : Env → Store → TN.R (TN.Flow × Env × Store)} {s0 s : Env} {k : Nat} {M : Store} {Q : TN.Flow × Env × Store → Prop} (h1 : c s M = .ok (false, M)) (h : Q (.nx, s, M)) : Wp (whlLoop c b s0 (k + 1) s M) Q := by
  simp only [whlLoop, h1, TN.R.bind_ok, Bool.false_eq_true, if_false, wp_ok]
  exact h
end
/-! ### the table in the store -/
abbrev tky (ps : List PP) : List Ky := ps.map fun p => Ky.s p.h.nm
def mtS (ps : List PP) (T : Tb) : Store := ps.map (fun p => dl (sl (T p.h.nm))) ++ [.dct (tky ps) ((List.range ps.length).map W.r)]
def tabD (ps : List PP) (T : Tb) : D := .dct (tky ps) (ps.map fun p => .lst (sl (T p.h.nm)))
theorem core_cases {ps : List PP} (C : CoreOk ps) : (∃ a, ps = [a]) ∨ ∃ a b, ps = [a, b] ∧ a.h.nm ≠ b.h.nm := by
  have h0 := C.n0
  have h1 := C.n1
  have nd := C.nd
  match ps, h0, h1, nd with
  | [a], _, _, _ => exact .inl ⟨a, rfl⟩
  | [a, b], _, _, nd => exact .inr ⟨a, b, rfl, by simpa using nd⟩
theorem mt_idx {ps : List PP} (C : CoreOk ps) (T : Tb) {p : PP} (hp : p ∈ ps) : ∃ i, idxSem (mtS ps T) (.r ps.length) (.d (.str p.h.nm)) = some (.r i) ∧ (mtS ps T)[i]? = some (dl (sl (T p.h.nm))) ∧ ∀ y, (mtS ps T).set i (dl (sl (T p.h.nm ++ [y]))) = mtS ps (upd T p.h.nm y) := by
  rcases core_cases C with ⟨a, rfl⟩ | ⟨a, b, rfl, hne⟩
  · rw [List.mem_singleton.mp hp]
    refine ⟨0, ?_, rfl, fun y => ?_⟩
    · show (dget (.s a.h.nm) [.s a.h.nm] [W.r 0]) = _
      simp [dget]
    · show [dl (sl (T a.h.nm ++ [y])), _] = [dl (sl (upd T a.h.nm y a.h.nm)), _]
      simp only [upd, if_true]
  · rcases List.mem_cons.mp hp with rfl | hp
    · refine ⟨0, ?_, rfl, fun y => ?_⟩
      · show (dget (.s p.h.nm) [.s p.h.nm, .s b.h.nm] [W.r 0, W.r 1]) = _
        simp [dget]
      · show [dl (sl (T p.h.nm ++ [y])), dl (sl (T b.h.nm)), _] = [dl (sl (upd T p.h.nm y p.h.nm)), dl (sl (upd T p.h.nm y b.h.nm)), _]
        simp only [upd, if_true, if_neg (fun e => hne (Eq.symm e))]
    · obtain rfl := List.mem_singleton.mp hp
      refine ⟨1, ?_, rfl, fun y => ?_⟩
      · show (dget (.s p.h.nm) [.s a.h.nm, .s p.h.nm] [W.r 0, W.r 1]) = _
        simp [dget, hne]
      · show [dl (sl (T a.h.nm)), dl (sl (T p.h.nm ++ [y])), _] = [dl (sl (upd T p.h.nm y a.h.nm)), dl (sl (upd T p.h.nm y p.h.nm)), _]
        simp only [upd, if_true, if_neg hne]
theorem in_dl {M : Store} {i : Nat} {l : List Tx} (h : M[i]? = some (dl (sl l))) (x : Tx) : inOf M (.d (.str x)) (.r i) = some (decide (x ∈ l)) := by
  simp only [inOf, h, toDs_map, Option.bind_some]
  exact inD_sl l x
theorem mt_reads {ps : List PP} (C : CoreOk ps) (T : Tb) : Reads (mtS ps T) (.r ps.length) ps T := fun p hp => by
  obtain ⟨i, h1, h2, _⟩ := mt_idx C T hp
  exact ⟨.r i, h1, in_dl h2⟩
theorem mt_below {ps : List PP} (C : CoreOk ps) (T : Tb) : (mtS ps T).all (Cell.below (mtS ps T).length) = true := by
  have e : ∀ l : List Tx, Cell.below (mtS ps T).length (dl (sl l)) = true := fun l => Cell.pure_below (show (dl (sl l)).pure = true from pu_l (sl l)) _
  rcases core_cases C with ⟨a, rfl⟩ | ⟨a, b, rfl, hne⟩
  · show (Cell.below _ (dl (sl (T a.h.nm))) && _) = true
    rw [e]; rfl
  · show (Cell.below _ (dl (sl (T a.h.nm))) && (Cell.below _ (dl (sl (T b.h.nm))) && _)) = true
    rw [e, e]; rfl
theorem mt_frz {ps : List PP} (C : CoreOk ps) (T : Tb) : frzW (mtS ps T) 0 ((mtS ps T).length + 1) (.r ps.length) = some (tabD ps T) := by
  rcases core_cases C with ⟨a, rfl⟩ | ⟨a, b, rfl, hne⟩
  · show (frzL (frzW (mtS [a] T) 0 2) [.r 0]).map (D.dct _) = _
    rw [frzL, frz_r (ds := sl (T a.h.nm)) rfl (Nat.le_refl _)]
    rfl
  · show (frzL (frzW (mtS [a, b] T) 0 3) [.r 0, .r 1]).map (D.dct _) = _
    rw [frzL, frz_r (ds := sl (T a.h.nm)) rfl (Nat.le_refl _), Option.bind_some, frzL, frz_r (ds := sl (T b.h.nm)) rfl (Nat.zero_le _)]
    rfl
theorem tab_reads {ps : List PP} (C : CoreOk ps) (T : Tb) (M : Store) : Reads M (.d (tabD ps T)) ps T := fun p hp => by
  refine ⟨.d (.lst (sl (T p.h.nm))), ?_, fun x => inD_sl _ x⟩
  show (dget (.s p.h.nm) (tky ps) _).map W.d = _
  rcases core_cases C with ⟨a, rfl⟩ | ⟨a, b, rfl, hne⟩
  · rw [List.mem_singleton.mp hp]
    simp [dget]
  · rcases List.mem_cons.mp hp with rfl | hp
    · simp [dget]
    · obtain rfl := List.mem_singleton.mp hp
      simp [dget, hne]
/-! ### lengths -/
def LbT (T : Tb) (B : Nat) : Prop := ∀ nm, (T nm).length ≤ B
theorem LbT.mono {T : Tb} {B C : Nat} (h : LbT T B) (g : B ≤ C) : LbT T C := fun nm => Nat.le_trans (h nm) g
theorem upd_len {T : Tb} {nm y : Tx} {B : Nat} (h : LbT T B) : LbT (upd T nm y) (B + 1) := fun n => by
  have := h n
  unfold upd
  split
  · rw [List.length_append, List.length_singleton]; omega
  · omega
theorem addN_len (nm : Tx) : ∀ (ys : List Tx) (T : Tb) (b : Bool) (B : Nat), LbT T B → LbT (addN nm ys T b).1 (B + ys.length)
  | [], T, b, B, h => h
  | y :: ys, T, b, B, h => by
    rw [addN, List.length_cons]
    split
    · exact (addN_len nm ys T b B h).mono (by omega)
    · exact (addN_len nm ys _ true (B + 1) (upd_len h)).mono (by omega)
/-! ### the program's walk -/
abbrev tbB1 : Ss := (.cons (.ifs (.cmp .notIn (.loc 4) (.idx (.loc 1) (.idx (.loc 3) (.lit (.int 0))))) (.cons (.expr (.mth .append (.idx (.loc 1) (.idx (.loc 3) (.lit (.int 0)))) (.cons (.loc 4) .nil))) (.cons (.asg (.nm 2) (.lit (.bl true))) .nil)) .nil) .nil)
abbrev tbB0 (fp : Nat) : Ss := (.cons (.for_ (.nm 4) (.of (.call fp (.cons (.loc 0) (.cons (.loc 1) (.cons (.loc 3) .nil))))) (.cons (.ifs (.cmp .notIn (.loc 4) (.idx (.loc 1) (.idx (.loc 3) (.lit (.int 0))))) (.cons (.expr (.mth .append (.idx (.loc 1) (.idx (.loc 3) (.lit (.int 0)))) (.cons (.loc 4) .nil))) (.cons (.asg (.nm 2) (.lit (.bl true))) .nil)) .nil) .nil)) .nil)
abbrev tabB (fp fa : Nat) : Ss := (.cons (.asg (.nm 1) (.dcel (.comp (.idx (.loc 3) (.lit (.int 0))) (.call fa (.cons (.loc 3) .nil)) (.nm 3) (.of (.loc 0))))) (.cons (.asg (.nm 2) (.lit (.bl true))) (.cons (.whl (.loc 2) (.cons (.asg (.nm 2) (.lit (.bl false))) (.cons (.for_ (.nm 3) (.of (.loc 0)) (.cons (.for_ (.nm 4) (.of (.call fp (.cons (.loc 0) (.cons (.loc 1) (.cons (.loc 3) .nil))))) (.cons (.ifs (.cmp .notIn (.loc 4) (.idx (.loc 1) (.idx (.loc 3) (.lit (.int 0))))) (.cons (.expr (.mth .append (.idx (.loc 1) (.idx (.loc 3) (.lit (.int 0)))) (.cons (.loc 4) .nil))) (.cons (.asg (.nm 2) (.lit (.bl true))) .nil)) .nil) .nil)) .nil)) .nil))) (.cons (.ret (.loc 1)) .nil))))
section
variable {F : Nat → List W → Store → TN.R (W × Store)} {ps : List PP} {fp fa : Nat} {po : Tb → PP → List Tx} {ini : PP → List Tx} {U : PP → List Tx} {T0 : Tb}
abbrev tbS (ps : List PP) (b : Bool) (X Y : Option W) : Env := [some (.d (coreD ps)), some (.r ps.length), some (.d (.bl b)), X, Y]
theorem nl_go (C : CoreOk ps) {p : PP} (hp : p ∈ ps) {g : Bool} {Q : TN.Flow × Env × Store → Prop} :
    ∀ (ys : List Tx) (T : Tb) (b : Bool) (B : Nat), LbT T B → B + ys.length < 5000000 → Q (.nx, tbS ps (addN p.h.nm ys T b).2 (some (.d p.d)) none, mtS ps (addN p.h.nm ys T b).1) →
      Wp (forLoop (Tg.nm 4).put (fun s M => evSs (Gm F) tbB1 s M) [] (tbS ps g (some (.d p.d)) none) (((sl ys).map W.d).map Itm.one) (tbS ps b (some (.d p.d)) none) (mtS ps T)) Q
  | [], T, b, B, hB, hl, hq => wpf_nil hq
  | y :: ys, T, b, B, hB, hl, hq => by
    simp only [List.length_cons] at hl
    obtain ⟨i, h1, h2, h3⟩ := mt_idx C T hp
    refine wpf_cons (s1 := tbS ps b (some (.d p.d)) (some (.d (.str y)))) rfl ?_
    have ei : evE (Gm F) (.idx (.loc 1) (.idx (.loc 3) (.lit (.int 0)))) (tbS ps b (some (.d p.d)) (some (.d (.str y)))) (mtS ps T) = .ok (.r i, mtS ps T) := eve_idx (M1 := mtS ps T) (M2 := mtS ps T) (y := .d (.str p.h.nm)) (evE_loc rfl) rfl h1
    have ec : evE (Gm F) (.cmp .notIn (.loc 4) (.idx (.loc 1) (.idx (.loc 3) (.lit (.int 0))))) (tbS ps b (some (.d p.d)) (some (.d (.str y)))) (mtS ps T) = .ok (.d (.bl (!decide (y ∈ T p.h.nm))), mtS ps T) := by
      refine eve_cmp (evE_loc rfl) ei ?_
      show (inOf _ (.d (.str y)) (.r i)).map not = _
      rw [in_dl h2]
      rfl
    rw [addN] at hq
    by_cases hm : y ∈ T p.h.nm
    · rw [if_pos hm] at hq
      rw [decide_eq_true hm] at ec
      exact wps_ifN ec rfl (wps_nil ⟨rfl, nl_go C hp ys T b B hB (by omega) hq⟩)
    · rw [if_neg hm] at hq
      rw [decide_eq_false hm] at ec
      refine wps_ifT ec rfl ?_
      refine wps_expr (wpe_mth (wpe_ok ei ⟨by simp only [mtRcv, h2], wpa_cons (wpe_loc ⟨_, rfl, wpa_nil ⟨(.d .non, mtS ps (upd T p.h.nm y)), ?_, ?_⟩⟩)⟩))
      · have := hB p.h.nm
        simp only [mtSem, h2]
        rw [if_pos (by rw [List.length_map, List.length_map]; unfold line; omega)]
        rw [← h3 y, show (sl (T p.h.nm)).map W.d ++ [W.d (.str y)] = (sl (T p.h.nm ++ [y])).map W.d by simp [sl]]
      · refine wps_asg (wpe_lit ⟨tbS ps true (some (.d p.d)) (some (.d (.str y))), rfl, wps_nil (wps_nil ⟨rfl, ?_⟩)⟩)
        exact nl_go C hp ys (upd T p.h.nm y) true (B + 1) (upd_len hB) (by omega) hq
theorem rd_go (C : CoreOk ps) (hfp : ∀ p ∈ ps, ∀ T, F fp [.d (coreD ps), .r ps.length, .d p.d] (mtS ps T) = .ok (.d (.lst (sl (po T p))), mtS ps T)) (hpl : ∀ p ∈ ps, ∀ T, (po T p).length ≤ 400) {g : Bool} {Q : TN.Flow × Env × Store → Prop} :
    ∀ (l : List PP) (T : Tb) (b : Bool) (B : Nat), (∀ p ∈ l, p ∈ ps) → LbT T B → B + 400 * l.length < 1000000 → (LbT (rnd po l T b).1 (B + 400 * l.length) → Q (.nx, tbS ps (rnd po l T b).2 none none, mtS ps (rnd po l T b).1)) →
      Wp (forLoop (Tg.nm 3).put (fun s M => evSs (Gm F) (tbB0 fp) s M) [] (tbS ps g none none) (((l.map PP.d).map W.d).map Itm.one) (tbS ps b none none) (mtS ps T)) Q
  | [], T, b, B, hs, hB, hl, hq => wpf_nil (hq hB)
  | p :: l, T, b, B, hs, hB, hl, hq => by
    simp only [List.length_cons] at hl hq
    have hp := hs p (List.mem_cons_self ..)
    have h4 := hpl p hp T
    refine wpf_cons (s1 := tbS ps b (some (.d p.d)) none) rfl ?_
    have ei : evI (Gm F) (.of (.call fp (.cons (.loc 0) (.cons (.loc 1) (.cons (.loc 3) .nil))))) (tbS ps b (some (.d p.d)) none) (mtS ps T) = .ok (((sl (po T p)).map W.d).map Itm.one, [], mtS ps T) := by
      have e0 : evE (Gm F) (.call fp (.cons (.loc 0) (.cons (.loc 1) (.cons (.loc 3) .nil)))) (tbS ps b (some (.d p.d)) none) (mtS ps T) = .ok (.d (.lst (sl (po T p))), mtS ps T) := by
        show (F fp [.d (coreD ps), .r ps.length, .d p.d] (mtS ps T)).from _ = _
        rw [hfp p hp]
        rfl
      simp only [evI, e0, TN.R.bind_ok]
      rfl
    refine wps_for ei ?_
    refine nl_go C hp (po T p) T b B hB (by omega) (wps_nil ⟨rfl, ?_⟩)
    have hB2 : LbT (addN p.h.nm (po T p) T b).1 (B + 400) := (addN_len _ _ _ _ _ hB).mono (by omega)
    exact rd_go C hfp hpl l _ _ (B + 400) (fun q hq => hs q (List.mem_cons_of_mem _ hq)) hB2 (by omega) fun h => hq (h.mono (by omega))
theorem tw_go (C : CoreOk ps) (hfp : ∀ p ∈ ps, ∀ T, F fp [.d (coreD ps), .r ps.length, .d p.d] (mtS ps T) = .ok (.d (.lst (sl (po T p))), mtS ps T)) (hpl : ∀ p ∈ ps, ∀ T, (po T p).length ≤ 400) (hm : Mono po) (hU : ∀ p ∈ ps, ∀ T, ∀ y ∈ po T p, y ∈ U p) {g : Bool} {Q : TN.Flow × Env × Store → Prop} (hq : ∀ T, Least ps po T0 T → Q (.nx, tbS ps false none none, mtS ps T)) :
    ∀ (n : Nat) (T : Tb), Sub T0 T → (∀ S : Tb, Sub T0 S → (∀ p ∈ ps, ∀ y ∈ po S p, y ∈ S p.h.nm) → Sub T S) → LbT T (400 + 800 * (100 - n)) → n ≤ 100 → miss U T ps + 1 < n →
      Wp (whlLoop (fun s M => (evTest (Gm F) (.loc 2) s M).from s) (fun s M => evSs (Gm F) (Ss.cons (.asg (.nm 2) (.lit (.bl false))) (.cons (.for_ (.nm 3) (.of (.loc 0)) (tbB0 fp)) .nil)) s M) (tbS ps g none none) n (tbS ps true none none) (mtS ps T)) Q
  | 0, T, h1, h2, h3, h4, h5 => by omega
  | n + 1, T, h1, h2, h3, h4, h5 => by
    have hn := C.n1
    refine wpw_step rfl ?_
    refine wps_asg (wpe_lit ⟨tbS ps false none none, rfl, ?_⟩)
    refine wps_for (items := ((ps.map PP.d).map W.d).map Itm.one) (gs := []) (M1 := mtS ps T) rfl ?_
    refine rd_go C hfp hpl ps T false _ (fun p hp => hp) h3 (by omega) fun hB => wps_nil ⟨rfl, ?_⟩
    show Wp (whlLoop _ _ _ n (tbS ps (rnd po ps T false).2 none none) (mtS ps (rnd po ps T false).1)) Q
    cases hb : (rnd po ps T false).2 with
    | false =>
      obtain ⟨_, e2, e3⟩ := rnd_no hb
      rw [e2]
      obtain ⟨m, rfl⟩ : ∃ m, n = m + 1 := ⟨n - 1, by omega⟩
      exact wpw_end rfl (hq T ⟨h1, h2, e3⟩)
    | true =>
      have := rnd_yes (U := U) hU (fun p hp => hp) hb
      exact tw_go C hfp hpl hm hU hq n _ (h1.trans (rnd_sub ps T false)) (fun S g1 g2 => rnd_le hm (h2 S g1 g2) g2) (hB.mono (by omega)) (by omega) (by omega)
def iniT (ps : List PP) (ini : PP → List Tx) : Tb := fun x => match ps.filter (fun q => decide (q.h.nm = x)) with
  | p :: _ => ini p
  | [] => []
theorem iniT_ok (C : CoreOk ps) {p : PP} (hp : p ∈ ps) : iniT ps ini p.h.nm = ini p := by
  unfold iniT
  rw [nd_filter C.nd hp]
theorem iniT_len (hi : ∀ p ∈ ps, (ini p).length ≤ 400) : LbT (iniT ps ini) 400 := fun nm => by
  unfold iniT
  split
  · rename_i p l e
    have : p ∈ ps.filter (fun q => decide (q.h.nm = nm)) := by rw [e]; exact List.mem_cons_self ..
    exact hi p (List.mem_filter.mp this).1
  · exact Nat.zero_le _
theorem tab_ok (C : CoreOk ps) (hfa : ∀ p ∈ ps, ∀ M, F fa [.d p.d] M = .ok (.r M.length, M ++ [dl (sl (ini p))])) (hfp : ∀ p ∈ ps, ∀ T, F fp [.d (coreD ps), .r ps.length, .d p.d] (mtS ps T) = .ok (.d (.lst (sl (po T p))), mtS ps T)) (hi : ∀ p ∈ ps, (ini p).length ≤ 400) (hpl : ∀ p ∈ ps, ∀ T, (po T p).length ≤ 400) (hm : Mono po) (hU : ∀ p ∈ ps, ∀ T, ∀ y ∈ po T p, y ∈ U p) (hU7 : ∀ p ∈ ps, (U p).length ≤ 7) :
    Wp (evSs (Gm F) (tabB fp fa) [some (.d (coreD ps)), none, none, none, none] []) fun r => ∃ T, Least ps po (iniT ps ini) T ∧ r.1 = .ret (.r ps.length) ∧ r.2.2 = mtS ps T := by
  have ea : ∀ p ∈ ps, ∀ (M : Store) (X Y Z : Option W), evE (Gm F) (.call fa (.cons (.loc 3) .nil)) [some (.d (coreD ps)), X, Y, some (.d p.d), Z] M = .ok (.r M.length, M ++ [dl (sl (ini p))]) := fun p hp M X Y Z => by
    show (F fa [.d p.d] M).from _ = _
    rw [hfa p hp]
    rfl
  have hB := iniT_len hi
  have hn := C.n1
  have hmb := miss_bound hU7 (iniT ps ini)
  have main : Wp (evSs (Gm F) ((tabB fp fa).drop 1) (([some (.d (coreD ps)), some (.r ps.length), none, none, none] : Env)) (mtS ps (iniT ps ini))) fun r => ∃ T, Least ps po (iniT ps ini) T ∧ r.1 = .ret (.r ps.length) ∧ r.2.2 = mtS ps T := by
    refine wps_asg (wpe_lit ⟨tbS ps true none none, rfl, ?_⟩)
    refine wps_whlQ (tw_go (U := U) C hfp hpl hm hU (fun T hT => ?_) 100 _ (Sub.refl _) (fun S g1 g2 => g1) (hB.mono (by omega)) (Nat.le_refl _) (by omega))
    exact wps_ret (wpe_loc ⟨_, rfl, T, hT, rfl, rfl⟩)
  rcases core_cases C with ⟨a, rfl⟩ | ⟨a, b, rfl, hne⟩
  · have i0 : iniT [a] ini a.h.nm = ini a := iniT_ok C (List.mem_cons_self ..)
    have em : mtS [a] (iniT [a] ini) = [dl (sl (ini a)), .dct [.s a.h.nm] [.r 0]] := by
      show [dl (sl (iniT [a] ini a.h.nm)), _] = _
      rw [i0]; rfl
    rw [em] at main
    refine wps_asg (wpe_dcel (items := [.one (.d a.d)]) (gs := []) (M1 := []) rfl (wpd_consG (d := .str a.h.nm) (w := .r 0) (M2 := [dl (sl (ini a))]) (k := .s a.h.nm) rfl rfl (ea a (List.mem_cons_self ..) _ _ _ _) rfl (show ([] : List Ky).length < line by decide) (wpd_nil ⟨_, rfl, main⟩)))
  · have i0 : iniT [a, b] ini a.h.nm = ini a := iniT_ok C (List.mem_cons_self ..)
    have i1 : iniT [a, b] ini b.h.nm = ini b := iniT_ok C (by simp)
    have em : mtS [a, b] (iniT [a, b] ini) = [dl (sl (ini a)), dl (sl (ini b)), .dct [.s a.h.nm, .s b.h.nm] [.r 0, .r 1]] := by
      show [dl (sl (iniT [a, b] ini a.h.nm)), dl (sl (iniT [a, b] ini b.h.nm)), _] = _
      rw [i0, i1]; rfl
    rw [em] at main
    have ed : dputK (.s b.h.nm) (W.r 1) [Ky.s a.h.nm] [W.r 0] = ([.s a.h.nm, .s b.h.nm], [.r 0, .r 1]) := by
      unfold dputK
      rw [if_neg (by simpa using fun e => hne (Eq.symm e))]
      rfl
    refine wps_asg (wpe_dcel (items := [.one (.d a.d), .one (.d b.d)]) (gs := []) (M1 := []) rfl (wpd_consG (d := .str a.h.nm) (w := .r 0) (M2 := [dl (sl (ini a))]) (k := .s a.h.nm) rfl rfl (ea a (List.mem_cons_self ..) _ _ _ _) rfl (show ([] : List Ky).length < line by decide) (wpd_consG (d := .str b.h.nm) (w := .r 1) (M2 := [dl (sl (ini a)), dl (sl (ini b))]) (k := .s b.h.nm) rfl rfl (ea b (by simp) _ _ _ _) rfl (show 1 < line by decide) (wpd_nil ?_))))
    show ∃ s1, _ ∧ Wp (evSs _ _ s1 ([dl (sl (ini a)), dl (sl (ini b)), .dct (dputK (.s b.h.nm) (W.r 1) [Ky.s a.h.nm] [W.r 0]).1 (dputK (.s b.h.nm) (W.r 1) [Ky.s a.h.nm] [W.r 0]).2])) _
    rw [ed]
    exact ⟨_, rfl, main⟩
end
theorem mov_ok {k : Nat} {ps : List PP} (C : CoreOk ps) : ∃ T, Least ps (poL ps) (iniT ps keysB) T ∧ ∀ M, run prog (k + 5) fmoving_table [.d (coreD ps)] M = .ok (.d (tabD ps T), M) := by
  have h : Wp (evSs (Gm (run prog (k + 4))) bmoving_table [some (.d (coreD ps)), none, none, none, none] []) fun r => ∃ T, Least ps (poL ps) (iniT ps keysB) T ∧ r.1 = .ret (.r ps.length) ∧ r.2.2 = mtS ps T := by
    refine tab_ok (fp := fpassed_on) (fa := fassigned_in) (U := fun p => p.h.arrays.map (35 :: ·)) C (fun p hp M => as_ok (C.ho p hp) (C.bo p hp) M) (fun p hp T => po_ok C hp (mt_below C T) (mt_reads C T)) (fun p hp => ?_) (fun p hp T => ?_) (fun T S p y h hy => ?_) (fun p hp T y hy => ?_) (fun p hp => ?_)
    · have := (C.bo p hp).l
      have e : ∀ l : List PS, (∀ u ∈ l, u.fok (ps.map PP.h) p.h) → (l.flatMap keysOf).length ≤ 2 * l.length := fun l => by
        induction l with
        | nil => intro _; exact Nat.zero_le _
        | cons u l ih =>
          intro hl
          have h1 := ih fun v hv => hl v (List.mem_cons_of_mem _ hv)
          have h2 := keys_le (hl u (List.mem_cons_self ..))
          rw [List.flatMap_cons, List.length_append, List.length_cons]
          omega
      exact Nat.le_trans (e _ (C.bo p hp).f) (by omega)
    · have := (C.bo p hp).l
      have e : ∀ l : List PS, (∀ u ∈ l, u.fok (ps.map PP.h) p.h) → (l.flatMap (psdOf (35 :: ·) ps T)).length ≤ 3 * l.length := fun l => by
        induction l with
        | nil => intro _; exact Nat.zero_le _
        | cons u l ih =>
          intro hl
          have h1 := ih fun v hv => hl v (List.mem_cons_of_mem _ hv)
          have h2 := psd_len (key := (35 :: ·)) (T := T) C (hl u (List.mem_cons_self ..))
          rw [List.flatMap_cons, List.length_append, List.length_cons]
          omega
      exact Nat.le_trans (e _ (C.bo p hp).f) (by omega)
    · obtain ⟨s, hs, hy⟩ := List.mem_flatMap.mp hy
      exact List.mem_flatMap.mpr ⟨s, hs, psd_mono h hy⟩
    · obtain ⟨s, hs, hy⟩ := List.mem_flatMap.mp hy
      exact psd_in ((C.bo p hp).f s hs) hy
    · rw [List.length_map]
      have := (C.ho p hp).la1
      omega
  obtain ⟨⟨fl, s, M'⟩, e, T, hT, e1, e2⟩ := h.get
  simp only at e1 e2
  subst e1 e2
  exact ⟨T, hT, fun M => run_pureF (fd := dmoving_table) rfl rfl rfl rfl e (mt_frz C T) M⟩
theorem tch_ok {k : Nat} {ps : List PP} (C : CoreOk ps) : ∃ T, Least ps (ptL ps) (iniT ps tchB) T ∧ ∀ M, run prog (k + 5) ftouched_table [.d (coreD ps)] M = .ok (.d (tabD ps T), M) := by
  have h : Wp (evSs (Gm (run prog (k + 4))) btouched_table [some (.d (coreD ps)), none, none, none, none] []) fun r => ∃ T, Least ps (ptL ps) (iniT ps tchB) T ∧ r.1 = .ret (.r ps.length) ∧ r.2.2 = mtS ps T := by
    refine tab_ok (fp := fpassed_to) (fa := fchanged_in) (U := fun p => p.h.arrays.map id) C (fun p hp M => ch_ok (C.bo p hp) M) (fun p hp T => pt_ok C hp (mt_below C T) (mt_reads C T)) (fun p hp => ?_) (fun p hp T => ?_) (fun T S p y h hy => ?_) (fun p hp T y hy => ?_) (fun p hp => ?_)
    · have := (C.bo p hp).l
      have e : ∀ l : List PS, (l.flatMap tchOf).length ≤ l.length := fun l => by
        induction l with
        | nil => exact Nat.zero_le _
        | cons u l ih =>
          have h2 : (tchOf u).length ≤ 1 := by cases u <;> simp [tchOf]
          rw [List.flatMap_cons, List.length_append, List.length_cons]
          omega
      exact Nat.le_trans (e (PS.fls p.body)) (by omega)
    · have := (C.bo p hp).l
      have e : ∀ l : List PS, (∀ u ∈ l, u.fok (ps.map PP.h) p.h) → (l.flatMap (psdOf id ps T)).length ≤ 3 * l.length := fun l => by
        induction l with
        | nil => intro _; exact Nat.zero_le _
        | cons u l ih =>
          intro hl
          have h1 := ih fun v hv => hl v (List.mem_cons_of_mem _ hv)
          have h2 := psd_len (key := id) (T := T) C (hl u (List.mem_cons_self ..))
          rw [List.flatMap_cons, List.length_append, List.length_cons]
          omega
      exact Nat.le_trans (e _ (C.bo p hp).f) (by omega)
    · obtain ⟨s, hs, hy⟩ := List.mem_flatMap.mp hy
      exact List.mem_flatMap.mpr ⟨s, hs, psd_mono h hy⟩
    · obtain ⟨s, hs, hy⟩ := List.mem_flatMap.mp hy
      exact psd_in ((C.bo p hp).f s hs) hy
    · rw [List.length_map]
      have := (C.ho p hp).la1
      omega
  obtain ⟨⟨fl, s, M'⟩, e, T, hT, e1, e2⟩ := h.get
  simp only at e1 e2
  subst e1 e2
  exact ⟨T, hT, fun M => run_pureF (fd := dtouched_table) rfl rfl rfl rfl e (mt_frz C T) M⟩
end TN


namespace TN
/-! ### the law's tables -/
structure LTab (l : List PP) (T : Tb) (M : Store) : Prop where
  ex : ∃ ws X, M = .dct (tky l) ws :: X ∧ ws.length = l.length ∧ ∀ p ∈ l, ∃ w, dget (.s p.h.nm) (tky l) ws = some w ∧ listOf M w = some ((sl (T p.h.nm)).map W.d)
theorem lo_more {M X : Store} {w : W} {l : List W} (h : listOf M w = some l) : listOf (M ++ X) w = some l := by
  cases w with
  | d d => cases d <;> exact h
  | r n =>
    simp only [listOf] at h ⊢
    cases hc : M[n]? with
    | none => rw [hc] at h; cases h
    | some c => rw [hc] at h; rw [get_more hc]; exact h
theorem lo_head {ks ks2 : List Ky} {ws ws2 : List W} {X : Store} {w : W} {l : List W} (h : listOf (.dct ks ws :: X) w = some l) : listOf (.dct ks2 ws2 :: X) w = some l := by
  cases w with
  | d d => cases d <;> exact h
  | r n =>
    cases n with
    | zero => cases h
    | succ n => exact h
theorem LTab.more {l : List PP} {T : Tb} {M X : Store} (h : LTab l T M) : LTab l T (M ++ X) := ⟨by
  obtain ⟨ws, Y, rfl, e, g⟩ := h.ex
  exact ⟨ws, Y ++ X, rfl, e, fun p hp => by
    obtain ⟨w, h1, h2⟩ := g p hp
    exact ⟨w, h1, lo_more h2⟩⟩⟩
theorem LTab.congr {l : List PP} {T S : Tb} {M : Store} (h : LTab l T M) (e : ∀ p ∈ l, T p.h.nm = S p.h.nm) : LTab l S M := ⟨by
  obtain ⟨ws, Y, rfl, e2, g⟩ := h.ex
  exact ⟨ws, Y, rfl, e2, fun p hp => by rw [← e p hp]; exact g p hp⟩⟩
theorem LTab.ix {l : List PP} {T : Tb} {M : Store} (h : LTab l T M) {p : PP} (hp : p ∈ l) : ∃ w, idxSem M (.r 0) (.d (.str p.h.nm)) = some w ∧ listOf M w = some ((sl (T p.h.nm)).map W.d) := by
  obtain ⟨ws, Y, rfl, e, g⟩ := h.ex
  exact g p hp
theorem LTab.reads {l : List PP} {T : Tb} {M : Store} (h : LTab l T M) : Reads M (.r 0) l T := fun p hp => by
  obtain ⟨w, h1, h2⟩ := h.ix hp
  refine ⟨w, h1, fun x => ?_⟩
  cases w with
  | d d =>
    cases d with
    | lst xs =>
      have e : xs = sl (T p.h.nm) := by
        have : xs.map W.d = (sl (T p.h.nm)).map W.d := Option.some.inj h2
        have := congrArg toDs this
        rw [toDs_map, toDs_map] at this
        exact Option.some.inj this
      rw [e]
      exact inD_sl _ x
    | _ => cases h2
  | r n =>
    refine in_dl ?_ x
    simp only [listOf] at h2
    cases hc : M[n]? with
    | none => rw [hc] at h2; cases h2
    | some c =>
      rw [hc] at h2
      cases c with
      | lst ws =>
        simp only [Option.some.injEq] at h2
        rw [h2]
      | _ => cases h2
theorem dget_len {α : Type} {k : Ky} : ∀ {ks : List Ky} {ws : List α}, ks.length = ws.length → k ∈ ks → ∃ w, dget k ks ws = some w
  | a :: ks, w :: ws, e, h => by
    rw [dget]
    by_cases hk : a = k
    · exact ⟨w, if_pos hk⟩
    · rw [if_neg hk]
      exact dget_len (by simpa using e) (by
        rcases List.mem_cons.mp h with rfl | h
        · exact absurd rfl hk
        · exact h)
  | [], [], e, h => by cases h
  | [], _ :: _, e, h => by cases h
  | _ :: _, [], e, h => by cases e
theorem dget_zip {α : Type} {k k2 : Ky} {w : α} : ∀ {ks : List Ky} {ws : List α}, dget k2 ks (List.zipWith (fun a v => if a = k then w else v) ks ws) = (dget k2 ks ws).map fun v => if k2 = k then w else v
  | [], _ => by simp [dget]
  | _ :: _, [] => by simp [dget]
  | a :: ks, v :: ws => by
    simp only [List.zipWith, dget]
    by_cases h : a = k2
    · rw [if_pos h, if_pos h, h]; rfl
    · rw [if_neg h, if_neg h]; exact dget_zip
theorem dget_app1 {α : Type} {k : Ky} {w v : α} {k2 : Ky} : ∀ {ks : List Ky} {ws : List α}, dget k ks ws = some v → dget k (ks ++ [k2]) (ws ++ [w]) = some v
  | [], _, h => by simp [dget] at h
  | _ :: _, [], h => by simp [dget] at h
  | a :: ks, u :: ws, h => by
    simp only [List.cons_append, dget] at h ⊢
    split
    · rename_i e; rw [if_pos e] at h; exact h
    · rename_i e; rw [if_neg e] at h; exact dget_app1 h
theorem dget_app2 {α : Type} {k : Ky} {w : α} : ∀ {ks : List Ky} {ws : List α}, ks.length = ws.length → k ∉ ks → dget k (ks ++ [k]) (ws ++ [w]) = some w
  | [], [], e, h => by simp [dget]
  | a :: ks, u :: ws, e, h => by
    simp only [List.cons_append, dget]
    rw [if_neg (fun c => h (by rw [c]; exact List.mem_cons_self ..))]
    exact dget_app2 (by simpa using e) fun c => h (List.mem_cons_of_mem _ c)
  | [], _ :: _, e, h => by cases e
  | _ :: _, [], e, h => by cases e
theorem tky_mem {l : List PP} {x : Tx} : Ky.s x ∈ tky l ↔ ∃ p ∈ l, p.h.nm = x := by
  constructor
  · intro h
    obtain ⟨p, hp, e⟩ := List.mem_map.mp h
    exact ⟨p, hp, by cases e; rfl⟩
  · rintro ⟨p, hp, rfl⟩
    exact List.mem_map.mpr ⟨p, hp, rfl⟩
/-- a key more -/
theorem LTab.new {l : List PP} {T : Tb} {M : Store} (h : LTab l T M) {p : PP} (hp : ∀ q ∈ l, q.h.nm ≠ p.h.nm) (hl : l.length < 100) {w : W} (hw : listOf M w = some ((sl (T p.h.nm)).map W.d)) : ∃ M', setSem M (.r 0) (.d (.str p.h.nm)) w = some M' ∧ LTab (l ++ [p]) T M' := by
  obtain ⟨ws, Y, rfl, e, g⟩ := h.ex
  have hk : Ky.s p.h.nm ∉ tky l := fun c => by
    obtain ⟨q, hq, e⟩ := tky_mem.mp c
    exact hp q hq e
  have hlen : (tky l).length < line := by rw [List.length_map]; unfold line; omega
  refine ⟨.dct (tky (l ++ [p])) (ws ++ [w]) :: Y, ?_, ⟨ws ++ [w], Y, rfl, by simp [e], fun q hq => ?_⟩⟩
  · show (if (tky l).length < line then some (Cell.dct (dputK (.s p.h.nm) w (tky l) ws).1 (dputK (.s p.h.nm) w (tky l) ws).2 :: Y) else none) = _
    rw [if_pos hlen]
    unfold dputK
    rw [if_neg hk]
    simp [tky]
  · have et : tky (l ++ [p]) = tky l ++ [.s p.h.nm] := by simp [tky]
    rw [et]
    rcases List.mem_append.mp hq with hq | hq
    · obtain ⟨v, h1, h2⟩ := g q hq
      exact ⟨v, dget_app1 h1, lo_head h2⟩
    · rw [List.mem_singleton.mp hq]
      exact ⟨w, dget_app2 (by rw [List.length_map, e]) hk, lo_head hw⟩
/-- a value anew -/
theorem LTab.put {l : List PP} {T : Tb} {M : Store} (h : LTab l T M) (hl : l.length < 100) {nm : Tx} (hp : ∃ p ∈ l, p.h.nm = nm) (xs : List Tx) : ∃ M', setSem M (.r 0) (.d (.str nm)) (.d (.lst (sl xs))) = some M' ∧ LTab l (fun x => if x = nm then xs else T x) M' := by
  obtain ⟨ws, Y, rfl, e, g⟩ := h.ex
  have hk : Ky.s nm ∈ tky l := tky_mem.mpr hp
  have hlen : (tky l).length < line := by rw [List.length_map]; unfold line; omega
  refine ⟨.dct (tky l) (List.zipWith (fun a v => if a = .s nm then W.d (.lst (sl xs)) else v) (tky l) ws) :: Y, ?_, ⟨_, Y, rfl, by simp [e], fun q hq => ?_⟩⟩
  · show (if (tky l).length < line then some (Cell.dct (dputK (.s nm) (W.d (.lst (sl xs))) (tky l) ws).1 (dputK (.s nm) (W.d (.lst (sl xs))) (tky l) ws).2 :: Y) else none) = _
    rw [if_pos hlen]
    unfold dputK
    rw [if_pos hk]
  · obtain ⟨v, h1, h2⟩ := g q hq
    rw [dget_zip, h1, Option.map_some]
    refine ⟨_, rfl, ?_⟩
    by_cases hn : q.h.nm = nm
    · rw [if_pos (by rw [hn]), if_pos hn]
      rfl
    · rw [if_neg (fun c => hn (by cases c; rfl)), if_neg hn]
      exact lo_head h2
theorem lo_frz {M : Store} {k : Nat} {w : W} {ds : List D} (h : listOf M w = some (ds.map W.d)) : frzW M 0 (k + 1) w = some (.lst ds) := by
  cases w with
  | d d =>
    cases d with
    | lst xs =>
      have : xs.map W.d = ds.map W.d := Option.some.inj h
      have := congrArg toDs this
      rw [toDs_map, toDs_map] at this
      rw [Option.some.inj this]
      rfl
    | _ => cases h
  | r n =>
    simp only [listOf] at h
    cases hc : M[n]? with
    | none => rw [hc] at h; cases h
    | some c =>
      rw [hc] at h
      cases c with
      | lst ws =>
        simp only [Option.some.injEq] at h
        subst h
        exact frz_r hc (Nat.zero_le _)
      | _ => cases h
theorem LTab.frz {ps : List PP} (C : CoreOk ps) {T : Tb} {M : Store} (h : LTab ps T M) : frzW M 0 (M.length + 1) (.r 0) = some (tabD ps T) := by
  obtain ⟨ws, Y, rfl, e, g⟩ := h.ex
  show (frzL (frzW _ 0 (Y.length + 1)) ws).map (D.dct (tky ps)) = _
  rcases core_cases C with ⟨a, rfl⟩ | ⟨a, b, rfl, hne⟩
  · match ws, e with
    | [w], _ =>
      obtain ⟨v, h1, h2⟩ := g a (List.mem_cons_self ..)
      have : v = w := by simpa [dget] using h1.symm
      subst this
      rw [frzL, lo_frz h2]
      rfl
  · match ws, e with
    | [w, w2], _ =>
      obtain ⟨v, h1, h2⟩ := g a (List.mem_cons_self ..)
      obtain ⟨v2, g1, g2⟩ := g b (by simp)
      have : v = w := by simpa [dget] using h1.symm
      subst this
      have : v2 = w2 := by simpa [dget, hne] using g1.symm
      subst this
      rw [frzL, lo_frz h2, Option.bind_some, frzL, lo_frz g2]
      rfl
theorem LTab.nil (T : Tb) : LTab [] T [.dct [] []] := ⟨[], [], rfl, rfl, fun p hp => by cases hp⟩
/-! ### lengths -/
theorem lst1_len {pd : Tb → PS → List Tx} {nm : Tx} : ∀ {l : List PS} {T : Tb} {B : Nat}, (∀ s ∈ l, ∀ T, (pd T s).length ≤ 3) → LbT T B → LbT (lst1 pd nm l T) (B + 3 * l.length)
  | [], T, B, hp, h => h
  | s :: l, T, B, hp, h => by
    refine (lst1_len (l := l) (B := B + 3) (fun u hu => hp u (List.mem_cons_of_mem _ hu)) fun x => ?_).mono (by simp only [List.length_cons]; omega)
    have := h x
    have := hp s (List.mem_cons_self ..) T
    show (if x = nm then T x ++ pd T s else T x).length ≤ _
    split
    · rw [List.length_append]; omega
    · omega
/-! ### a key -/
def lkey (i : PIt) : Tx := cond i.arr (35 :: i.nm) i.nm
theorem key_ok {k : Nat} {i : PIt} (h : i.nm.length < 100) (M : Store) : run prog (k + 1) f_law_key [.d i.d] M = .ok (.d (.str (lkey i)), M) := by
  refine run_pureW (fd := d_law_key) rfl rfl rfl rfl fun F hF => ?_
  obtain ⟨ar, x⟩ := i
  cases ar with
  | true =>
    refine wps_ifT (M1 := []) (x := .d (.bl true)) rfl rfl ?_
    exact wps_ret (wpe_ok (hash_ev h rfl rfl) rfl)
  | false =>
    refine wps_ifN (M1 := []) (x := .d (.bl false)) rfl rfl ?_
    exact wps_ret (wpe_ok (w := .d (.str x)) (M1 := []) rfl rfl)
theorem var_ok {k : Nat} {i : PIt} (h : i.nm.length < 100) (M : Store) : run prog (k + 1) fvariable_of [.d i.d] M = .ok (.d (.str (lkey i)), M) := by
  refine run_pureW (fd := dvariable_of) rfl rfl rfl rfl fun F hF => ?_
  obtain ⟨ar, x⟩ := i
  cases ar with
  | true =>
    refine wps_ifT (M1 := []) (x := .d (.bl true)) rfl rfl ?_
    exact wps_ret (wpe_ok (hash_ev h rfl rfl) rfl)
  | false =>
    refine wps_ifN (M1 := []) (x := .d (.bl false)) rfl rfl ?_
    exact wps_ret (wpe_ok (w := .d (.str x)) (M1 := []) rfl rfl)
/-! ### arguments by their places -/
def pick (t : PIt → Bool) : List PIt → List PA → List PA
  | i :: is, a :: as => if t i then a :: pick t is as else pick t is as
  | _, _ => []
theorem pick_range (t : PIt → Bool) (d0 : PIt) (a0 : PA) : ∀ (is : List PIt) (as : List PA), is.length = as.length → ((List.range is.length).filter fun i => t ((is[i]?).getD d0)).map (fun i => (as[i]?).getD a0) = pick t is as
  | [], [], _ => rfl
  | i :: is, a :: as, e => by
    have ih := pick_range t d0 a0 is as (by simpa using e)
    rw [List.length_cons, List.range_succ_eq_map, List.filter_cons]
    simp only [List.getElem?_cons_zero, Option.getD_some, List.filter_map, pick]
    have e2 : (fun i_1 => t (((i :: is)[i_1]?).getD d0)) ∘ Nat.succ = fun j => t ((is[j]?).getD d0) := rfl
    rw [e2]
    cases t i with
    | true =>
      simp only [if_true, List.map_cons, List.getElem?_cons_zero, Option.getD_some, List.map_map]
      congr 1
    | false =>
      simp only [Bool.false_eq_true, if_false, List.map_map]
      exact ih
  | [], _ :: _, e => by cases e
  | _ :: _, [], e => by cases e
end TN


namespace TN
abbrev lmE (ps : List PP) (P Tn K S : Option W) : Env := [some (.d (coreD ps)), some (.r 0), P, Tn, K, S, none, none, none, none, none, none]
section
variable {F : Nat → List W → Store → TN.R (W × Store)} {k : Nat} {ps : List PP} {hs : List PH} {h : PH}
theorem lk_go (ho : h.ok) {P : W} {M0 : Store} {n0 : Nat} {Q : TN.Flow × Env × Store → Prop} :
    ∀ (l : List PS) (acc : List D) (G : Store), (∃ X, G = M0 ++ X) → acc.length + 2 * l.length < 5000 → (∀ u ∈ l, u.fok hs h) → (∀ G, (∃ X, G = M0 ++ X) → Q (.nx, lmE ps (some P) none (some (.r G.length)) none, G ++ [dl (acc ++ sl (l.flatMap keysOf))])) →
      Wp (forLoop (Tg.nm 5).put (fun s M => evSs (Gm F) fb_law_moves_1 s M) [] (lmE ps (some P) none (some (.r n0)) none) (((PS.ds l).map W.d).map Itm.one) (lmE ps (some P) none (some (.r G.length)) none) (G ++ [dl acc])) Q
  | [], acc, G, hG, hl, ok, hq => wpf_nil (by have := hq G hG; simp only [List.flatMap_nil, List.map_nil, List.append_nil] at this; exact this)
  | u :: l, acc, G, hG, hl, ok, hq => by
    simp only [List.length_cons] at hl
    have ou := ok u (List.mem_cons_self ..)
    have rest : ∀ (ds : List D) (G : Store), (∃ X, G = M0 ++ X) → ds = sl (keysOf u) → Wp (forLoop (Tg.nm 5).put (fun s M => evSs (Gm F) fb_law_moves_1 s M) [] (lmE ps (some P) none (some (.r n0)) none) (((PS.ds l).map W.d).map Itm.one) (lmE ps (some P) none (some (.r G.length)) none) (G ++ [dl (acc ++ ds)])) Q := fun ds G hG e => by
      subst e
      have := keys_le ou
      refine lk_go ho l _ G hG (by simp only [List.length_append, List.length_map]; omega) (fun v hv => ok v (List.mem_cons_of_mem _ hv)) fun G hG => ?_
      have hq := hq G hG
      rw [List.flatMap_cons] at hq
      simpa [List.append_assoc] using hq
    have hG2 : ∃ X, G ++ [dl acc] = M0 ++ X := by
      obtain ⟨X, rfl⟩ := hG
      exact ⟨X ++ [dl acc], by rw [List.append_assoc]⟩
    have hl2 := keys_le ou
    rw [PS.ds]
    refine wpf_cons (s1 := lmE ps (some P) none (some (.r G.length)) (some (.d u.d))) rfl ?_
    have cat : ∀ (e : E), evE (Gm F) e (lmE ps (some P) none (some (.r G.length)) (some (.d u.d))) (G ++ [dl acc]) = .ok (.d (.lst (sl (keysOf u))), G ++ [dl acc]) → evE (Gm F) (.cel (.cat (.loc 4) e)) (lmE ps (some P) none (some (.r G.length)) (some (.d u.d))) (G ++ [dl acc]) = .ok (.r (G ++ [dl acc]).length, (G ++ [dl acc]) ++ [dl (acc ++ sl (keysOf u))]) := fun e he =>
      cel_of (cat_cell rfl he (by rw [List.length_map]; omega))
    cases u with
    | set x v =>
      refine wps_ifT (M1 := G ++ [dl acc]) (x := .d (.bl true)) rfl rfl ?_
      refine wps_asg (wpe_ok (cat _ rfl) ⟨_, rfl, wps_nil (wps_nil ⟨rfl, ?_⟩)⟩)
      exact rest _ _ hG2 rfl
    | pop x a =>
      have ha := ho.al ou.2
      refine wps_ifF (M1 := G ++ [dl acc]) (x := .d (.bl false)) rfl rfl ?_
      refine wps_ifT (M1 := G ++ [dl acc]) (x := .d (.bl true)) rfl rfl ?_
      have ee : evE (Gm F) (.frz (.disp (.cons (.idx (.loc 5) (.lit (.int 1))) (.cons (.bin .add (.lit (.str [35])) (.idx (.loc 5) (.lit (.int 2)))) .nil)))) (lmE ps (some P) none (some (.r G.length)) (some (.d (PS.pop x a).d))) (G ++ [dl acc]) = .ok (.d (.lst [.str x, .str (35 :: a)]), G ++ [dl acc]) :=
        frz_of (by
          show evEs (Gm F) _ _ _ = _
          exact eve_cons (w := .d (.str x)) (M1 := G ++ [dl acc]) rfl (eve_one (hash_ev ha rfl rfl)))
      refine wps_asg (wpe_ok (cat _ ee) ⟨_, rfl, wps_nil (wps_nil (wps_nil ⟨rfl, ?_⟩))⟩)
      exact rest _ _ hG2 rfl
    | push v a =>
      have ha := ho.al ou.2
      refine wps_ifF (M1 := G ++ [dl acc]) (x := .d (.bl false)) rfl rfl ?_
      refine wps_ifF (M1 := G ++ [dl acc]) (x := .d (.bl false)) rfl rfl ?_
      refine wps_ifT (M1 := G ++ [dl acc]) (x := .d (.bl true)) rfl rfl ?_
      refine wps_expr (wpe_app (G := G) rfl rfl (wpe_ok (hash_ev ha rfl rfl) ⟨G, rfl, rfl, by rw [List.length_map]; unfold line; omega, ?_⟩))
      rw [show acc.map W.d ++ [W.d (.str (35 :: a))] = (acc ++ [D.str (35 :: a)]).map W.d by simp]
      exact wps_nil (wps_nil (wps_nil (wps_nil ⟨rfl, rest _ _ hG rfl⟩)))
    | call f as ts =>
      refine wps_ifF (M1 := G ++ [dl acc]) (x := .d (.bl false)) rfl rfl ?_
      refine wps_ifF (M1 := G ++ [dl acc]) (x := .d (.bl false)) rfl rfl ?_
      refine wps_ifF (M1 := G ++ [dl acc]) (x := .d (.bl false)) rfl rfl ?_
      refine wps_ifT (M1 := G ++ [dl acc]) (x := .d (.bl true)) rfl rfl ?_
      have ee : evE (Gm F) (.frz (.bi .list (.cons (.idx (.loc 5) (.lit (.int 3))) .nil))) (lmE ps (some P) none (some (.r G.length)) (some (.d (PS.call f as ts).d))) (G ++ [dl acc]) = .ok (.d (.lst (sl ts)), G ++ [dl acc]) :=
        frz_of (by
          have e0 : evEs (Gm F) (.cons (.idx (.loc 5) (.lit (.int 3))) .nil) (lmE ps (some P) none (some (.r G.length)) (some (.d (PS.call f as ts).d))) (G ++ [dl acc]) = .ok ([.d (.tup (sl ts))], G ++ [dl acc]) := rfl
          simp only [evL, e0, TN.R.bind_ok]
          rfl)
      refine wps_asg (wpe_ok (cat _ ee) ⟨_, rfl, wps_nil (wps_nil (wps_nil (wps_nil (wps_nil ⟨rfl, ?_⟩))))⟩)
      exact rest _ _ hG2 rfl
    | _ =>
      refine wps_ifF (M1 := G ++ [dl acc]) (x := .d (.bl false)) rfl rfl ?_
      refine wps_ifF (M1 := G ++ [dl acc]) (x := .d (.bl false)) rfl rfl ?_
      refine wps_ifF (M1 := G ++ [dl acc]) (x := .d (.bl false)) rfl rfl ?_
      refine wps_ifF (M1 := G ++ [dl acc]) (x := .d (.bl false)) rfl rfl ?_
      have := rest [] G hG rfl
      rw [List.append_nil] at this
      exact wps_nil (wps_nil (wps_nil (wps_nil (wps_nil ⟨rfl, this⟩))))
theorem lm0_go (hF : F = run prog (k + 3)) (C : CoreOk ps) {Q : TN.Flow × Env × Store → Prop} (hq : ∀ M, LTab ps (iniT ps keysB) M → Q (.nx, lmE ps none none none none, M)) :
    ∀ (rest done : List PP) (M : Store), ps = done ++ rest → LTab done (iniT ps keysB) M → Wp (forLoop (Tg.nm 2).put (fun s M => evSs (Gm F) fb_law_moves_0 s M) [] (lmE ps none none none none) (((rest.map PP.d).map W.d).map Itm.one) (lmE ps none none none none) M) Q
  | [], done, M, e, h => wpf_nil (hq M (by rw [List.append_nil] at e; rw [e] at h ⊢; exact h))
  | p :: rest, done, M, e, h => by
    have hp : p ∈ ps := by rw [e]; simp
    have hb := C.bo p hp
    have hl := hb.l
    have hd : ∀ q ∈ done, q.h.nm ≠ p.h.nm := fun q hq e2 => by
      have nd := C.nd
      rw [e, List.map_append, List.map_cons, List.nodup_append] at nd
      exact nd.2.2 _ (List.mem_map.mpr ⟨q, hq, rfl⟩) _ (List.mem_cons_self ..) e2
    have hdl : done.length < 100 := by
      have := C.n1
      rw [e, List.length_append] at this
      omega
    refine wpf_cons (s1 := lmE ps (some (.d p.d)) none none none) rfl ?_
    refine wps_asg (wpe_ok (w := .r M.length) (M1 := M ++ [dl []]) rfl ⟨lmE ps (some (.d p.d)) none (some (.r M.length)) none, rfl, ?_⟩)
    refine wps_for (lbody_of (n := 0) hF hb rfl) ?_
    refine lk_go (M0 := M) (n0 := M.length) (C.ho p hp) (PS.fls p.body) [] M ⟨[], by simp⟩ (by simp only [List.length_nil]; omega) hb.f fun G hG => ?_
    obtain ⟨X, rfl⟩ := hG
    rw [List.nil_append]
    obtain ⟨M', hs, hT⟩ := (h.more (X := X ++ [dl (sl (keysB p))])).new (p := p) hd hdl (w := .r (M ++ X).length) (by
      rw [← List.append_assoc, iniT_ok C hp]
      simp only [listOf, get_last])
    rw [← List.append_assoc] at hs
    refine wps_set (M1 := (M ++ X) ++ [dl (sl (keysB p))]) (M2 := (M ++ X) ++ [dl (sl (keysB p))]) (M3 := (M ++ X) ++ [dl (sl (keysB p))]) (w := .r (M ++ X).length) (x := .r 0) (y := .d (.str p.h.nm)) (evE_loc rfl) (evE_loc rfl) (eve_idx (M1 := (M ++ X) ++ [dl (sl (keysB p))]) (x := .d p.d) (evE_loc rfl) rfl rfl) hs ?_
    refine wps_nil ⟨rfl, ?_⟩
    exact lm0_go hF C hq rest (done ++ [p]) M' (by rw [e]; simp) hT
/-! ### a statement of a round -/
def isAr : D → Bool
  | .tup (.str x :: _) => decide (x = [97, 114, 114, 97, 121])
  | _ => false
def arH : D → D
  | .tup [_, .str a] => .str (35 :: a)
  | _ => .non
theorem va_no (v : PV) : isAr v.d = false := by cases v <;> first | rfl | (rename_i q _ _; cases q <;> rfl)
theorem pick_pass {tab : List Tx} : ∀ (is : List PIt) (as : List PA), as.map PA.isA = is.map PIt.arr → ((((pick (fun i => decide (lkey i ∈ tab)) is as).map PA.d).filter isAr).map arH) = sl (passK (35 :: ·) tab is as)
  | [], [], _ => rfl
  | [], _ :: _, e => by cases e
  | _ :: _, [], e => by cases e
  | ⟨false, x⟩ :: is, .ar a :: as, e => by simp [PA.isA] at e
  | ⟨true, x⟩ :: is, .va v :: as, e => by simp [PA.isA] at e
  | ⟨false, x⟩ :: is, .va v :: as, e => by
    simp only [List.map_cons, List.cons.injEq] at e
    rw [pick, passK]
    split
    · rw [List.map_cons, List.filter_cons_of_neg (by rw [show (PA.va v).d = v.d from rfl, va_no]; decide)]
      exact pick_pass is as e.2
    · exact pick_pass is as e.2
  | ⟨true, x⟩ :: is, .ar a :: as, e => by
    simp only [List.map_cons, List.cons.injEq] at e
    have ih := pick_pass (tab := tab) is as e.2
    rw [pick, passK]
    by_cases hm : (35 :: x) ∈ tab
    · rw [if_pos (show decide (lkey ⟨true, x⟩ ∈ tab) = true from decide_eq_true hm), if_pos ⟨rfl, hm⟩, List.map_cons, List.filter_cons_of_pos rfl, List.map_cons, ih]
      rfl
    · rw [if_neg (show ¬ decide (lkey ⟨true, x⟩ ∈ tab) = true from by rw [show decide (lkey ⟨true, x⟩ ∈ tab) = false from decide_eq_false hm]; decide), if_neg (fun c => hm c.2)]
      exact ih
theorem pick_mem {t : PIt → Bool} : ∀ {is : List PIt} {as : List PA} {x : PA}, x ∈ pick t is as → x ∈ as
  | [], _, x, h => by simp [pick] at h
  | i :: is, [], x, h => by simp [pick] at h
  | i :: is, a :: as, x, h => by
    rw [pick] at h
    split at h
    · rcases List.mem_cons.mp h with rfl | h
      · exact List.mem_cons_self ..
      · exact List.mem_cons_of_mem _ (pick_mem h)
    · exact List.mem_cons_of_mem _ (pick_mem h)
theorem pick_len {t : PIt → Bool} : ∀ {is : List PIt} {as : List PA}, (pick t is as).length ≤ is.length
  | [], _ => by simp [pick]
  | i :: is, [] => by simp [pick]
  | i :: is, a :: as => by
    have := pick_len (t := t) (is := is) (as := as)
    rw [pick]
    split <;> simp only [List.length_cons] <;> omega
def iF (its : List PIt) (t : PIt → Bool) : D → Bool
  | .int i => t ((its[i.toNat]?).getD ⟨false, []⟩)
  | _ => false
def aF (as : List PA) (g : PA → D) : D → D
  | .int i => g ((as[i.toNat]?).getD (.ar []))
  | _ => .non
abbrev rngD (n : Nat) : List D := (List.range n).map fun (i : Nat) => D.int (0 + (i : Int))
theorem rngD_items (n : Nat) : rngItems 0 n = ((rngD n).map W.d).map Itm.one := by
  simp [rngItems, rngD, List.map_map, Function.comp_def]
theorem rngD_pick {its : List PIt} {as : List PA} (t : PIt → Bool) (g : PA → D) (h : its.length = as.length) : ((rngD its.length).filter (iF its t)).map (aF as g) = (pick t its as).map g := by
  rw [← pick_range t ⟨false, []⟩ (.ar []) its as h, List.filter_map, List.map_map, List.map_map]
  have e1 : (iF its t ∘ fun (i : Nat) => D.int (0 + (i : Int))) = fun i => t ((its[i]?).getD ⟨false, []⟩) := by
    funext i
    show t ((its[(0 + (i : Int)).toNat]?).getD _) = _
    rw [Int.zero_add, Int.toNat_natCast]
  have e2 : (aF as g ∘ fun (i : Nat) => D.int (0 + (i : Int))) = g ∘ fun i => (as[i]?).getD (.ar []) := by
    funext i
    show g ((as[(0 + (i : Int)).toNat]?).getD _) = _
    rw [Int.zero_add, Int.toNat_natCast]
    rfl
  rw [e1, e2]
theorem tup_at {ds : List D} {i : Nat} {M : Store} (h : i < ds.length) : idxSem M (.d (.tup ds)) (.d (.int (0 + (i : Int)))) = some (.d ds[i]) := by
  rw [Int.zero_add]
  simp only [idxSem, atN h, Option.map_some]
theorem evs_asg {Γ : Ctx} {t : Tg} {e : E} {ss : Ss} {s s1 : Env} {M M1 : Store} {w : W} (h1 : evE Γ e s M = .ok (w, M1)) (h2 : t.put (.one w) s = some s1) : evSs Γ (.cons (.asg t e) ss) s M = evSs Γ ss s1 M1 := by
  simp only [evSs, evS, h1, TN.R.from_ok, TN.R.bind_ok, h2, TN.R.of_some]
theorem evs_set {Γ : Ctx} {o i e : E} {ss : Ss} {s : Env} {M M1 M2 M3 M4 : Store} {w x y : W} (h1 : evE Γ e s M = .ok (w, M1)) (h2 : evE Γ o s M1 = .ok (x, M2)) (h3 : evE Γ i s M2 = .ok (y, M3)) (h4 : setSem M3 x y w = some M4) : evSs Γ (.cons (.set o i e) ss) s M = evSs Γ ss s M4 := by
  simp only [evSs, evS, h1, h2, h3, h4, TN.R.from_ok, TN.R.bind_ok, TN.R.of_some]
theorem evs_nil {Γ : Ctx} {s : Env} {M : Store} : evSs Γ .nil s M = .ok (.nx, s, M) := rfl
theorem comp_frzE {Γ : Ctx} {elt c : E} {tg : Tg} {it : I} {s : Env} {M : Store} {ds : List D} (p : D → Bool) (g : D → D) (hi : evI Γ it s M = .ok ((ds.map W.d).map Itm.one, [], M)) (hc : c.isNo = false) (hl : ds.length ≤ 10000)
    (h : ∀ d ∈ ds, ∃ s1, tg.put (.one (.d d)) (wipe s tg.slots) = some s1 ∧ evE Γ c s1 M = .ok (.d (.bl (p d)), M) ∧ (p d = true → evE Γ elt s1 M = .ok (.d (g d), M))) : evE Γ (.frz (.comp elt tg it c)) s M = .ok (.d (.lst ((ds.filter p).map g)), M) := by
  have hw : Wp (evE Γ (.frz (.comp elt tg it c)) s M) fun r => r = (.d (.lst ((ds.filter p).map g)), M) := by
    refine wpe_frz (wpl_comp hi ?_)
    refine comp_fltN p g ds [] (by simpa using hl) (fun d hd => ?_) ⟨_, toDs_map _, rfl⟩
    obtain ⟨s1, h1, h2, h3⟩ := h d hd
    refine ⟨s1, h1, ?_, h3⟩
    rw [hc]
    simp only [Bool.false_eq_true, if_false, h2, TN.R.bind_ok, tru, TN.R.of_some]
  obtain ⟨r, e, rfl⟩ := hw.get
  exact e
abbrev lm4c : Ss := match fb_law_moves_4 with | .cons (.ifs _ a _) _ => a | _ => .nil
theorem lm4 (hF : F = run prog (k + 3)) (C : CoreOk ps) {p : PP} (hp : p ∈ ps) {u : PS} (ou : u.fok (ps.map PP.h) p.h) {tn : W} {T : Tb} {M : Store} {B : Nat} (hT : LTab ps T M) (hB : LbT T B) (hB2 : B < 100000) :
    Wp (evSs (Gm F) fb_law_moves_4 (lmE ps (some (.d p.d)) (some tn) none (some (.d u.d))) M) fun r => r.1 = .nx ∧ mask (lmE ps (some (.d p.d)) (some tn) none none) r.2.1 = lmE ps (some (.d p.d)) (some tn) none none ∧ LTab ps (fun x => if x = p.h.nm then T x ++ psdOf (35 :: ·) ps T u else T x) r.2.2 := by
  cases u with
  | call f as ts =>
    obtain ⟨g, hg, rfl, hk, hb, _, _⟩ := ou
    obtain ⟨q, hq, rfl⟩ := mem_heads hg
    have qo := C.ho q hq
    have hn := qo.ni
    have po := C.ho p hp
    have hlen : q.h.items.length = as.length := by
      have := congrArg List.length hk
      simpa using this.symm
    have e6 : evE (Gm F) (.idx (.idx (.frz (.comp (.loc 11) (.nm 11) (.of (.loc 0)) (.cmp .eq (.idx (.loc 11) (.lit (.int 0))) (.idx (.loc 5) (.lit (.int 1)))))) (.lit (.int 0))) (.lit (.int 1))) (lmE ps (some (.d p.d)) (some tn) none (some (.d (PS.call q.h.nm as ts).d))) M = .ok (.d (.tup (q.h.items.map PIt.d)), M) :=
      eve_idx (M1 := M) (x := .d q.d) (y := .d (.int 1)) (eve_idx (M1 := M) (x := .d (.lst [q.d])) (y := .d (.int 0)) (pn_comp C hq (v := 11) rfl (fun X => rfl) (fun X => rfl)) rfl rfl) rfl rfl
    obtain ⟨wq, q1, q2⟩ := hT.reads q hq
    have e7 : evE (Gm F) (.frz (.comp (.idx (.idx (.loc 5) (.lit (.int 2))) (.loc 8)) (.nm 8) (.rng (.cons (.bi .len (.cons (.loc 6) .nil)) .nil)) (.cmp .isIn (.call f_law_key (.cons (.idx (.loc 6) (.loc 8)) .nil)) (.idx (.loc 1) (.idx (.loc 5) (.lit (.int 1)))))))
        [some (.d (coreD ps)), some (.r 0), some (.d p.d), some tn, none, some (.d (PS.call q.h.nm as ts).d), some (.d (.tup (q.h.items.map PIt.d))), none, none, none, none, none] M = .ok (.d (.lst ((pick (fun i => decide (lkey i ∈ T q.h.nm)) q.h.items as).map PA.d)), M) := by
      have ei : evI (Gm F) (.rng (.cons (.bi .len (.cons (.loc 6) .nil)) .nil)) [some (.d (coreD ps)), some (.r 0), some (.d p.d), some tn, none, some (.d (PS.call q.h.nm as ts).d), some (.d (.tup (q.h.items.map PIt.d))), none, none, none, none, none] M = .ok (((rngD q.h.items.length).map W.d).map Itm.one, [], M) := by
        rw [← rngD_items]
        refine evI_rng (ws := [.d (.int (q.h.items.length : Int))]) (eve_one (eve_bi (ws := [.d (.tup (q.h.items.map PIt.d))]) (eve_one (evE_loc rfl)) ?_)) (rng_nat (by omega))
        show some (W.d (.int ((q.h.items.map PIt.d).length : Int))) = _
        rw [List.length_map]
      rw [← rngD_pick (fun i => decide (lkey i ∈ T q.h.nm)) PA.d hlen]
      refine comp_frzE (iF q.h.items fun i => decide (lkey i ∈ T q.h.nm)) (aF as PA.d) ei rfl (by simp [rngD]; omega) (fun d hd => ?_)
      obtain ⟨i, hi, rfl⟩ := List.mem_map.mp hd
      have hi := List.mem_range.mp hi
      refine ⟨_, rfl, ?_, fun _ => ?_⟩
      · have ek : evE (Gm F) (.call f_law_key (.cons (.idx (.loc 6) (.loc 8)) .nil)) [some (.d (coreD ps)), some (.r 0), some (.d p.d), some tn, none, some (.d (PS.call q.h.nm as ts).d), some (.d (.tup (q.h.items.map PIt.d))), none, some (.d (.int (0 + (i : Int)))), none, none, none] M = .ok (.d (.str (lkey q.h.items[i])), M) := by
          have e0 : evEs (Gm F) (.cons (.idx (.loc 6) (.loc 8)) .nil) [some (.d (coreD ps)), some (.r 0), some (.d p.d), some tn, none, some (.d (PS.call q.h.nm as ts).d), some (.d (.tup (q.h.items.map PIt.d))), none, some (.d (.int (0 + (i : Int)))), none, none, none] M = .ok ([.d q.h.items[i].d], M) := by
            refine eve_one (eve_idx (M1 := M) (x := .d (.tup (q.h.items.map PIt.d))) (y := .d (.int (0 + (i : Int)))) (evE_loc rfl) (evE_loc rfl) ?_)
            rw [tup_at (by rw [List.length_map]; exact hi), List.getElem_map]
          simp only [evE, e0, TN.R.bind_ok]
          show (F f_law_key [.d q.h.items[i].d] M).from _ = _
          rw [hF, key_ok (k := k + 2) (qo.ln _ (List.mem_append_left _ (List.getElem_mem hi)))]
          rfl
        have et : evE (Gm F) (.cmp .isIn (.call f_law_key (.cons (.idx (.loc 6) (.loc 8)) .nil)) (.idx (.loc 1) (.idx (.loc 5) (.lit (.int 1))))) [some (.d (coreD ps)), some (.r 0), some (.d p.d), some tn, none, some (.d (PS.call q.h.nm as ts).d), some (.d (.tup (q.h.items.map PIt.d))), none, some (.d (.int (0 + (i : Int)))), none, none, none] M = .ok (.d (.bl (decide (lkey q.h.items[i] ∈ T q.h.nm))), M) :=
          eve_cmp ek (eve_idx (M1 := M) (y := .d (.str q.h.nm)) (evE_loc rfl) rfl q1) (q2 _)
        refine et.trans ?_
        show TN.R.ok (W.d (.bl (decide (lkey q.h.items[i] ∈ T q.h.nm))), M) = TN.R.ok (W.d (.bl (decide (lkey ((q.h.items[(0 + (i : Int)).toNat]?).getD _) ∈ T q.h.nm))), M)
        rw [Int.zero_add, Int.toNat_natCast, List.getElem?_eq_getElem hi]
        rfl
      · refine eve_idx (M1 := M) (x := .d (.tup (as.map PA.d))) (y := .d (.int (0 + (i : Int)))) rfl (evE_loc rfl) ?_
        rw [tup_at (by rw [List.length_map]; omega), List.getElem_map]
        show _ = some (W.d (PA.d ((as[(0 + (i : Int)).toNat]?).getD _)))
        rw [Int.zero_add, Int.toNat_natCast, List.getElem?_eq_getElem (by omega)]
        rfl
    have pl := pick_len (t := fun i => decide (lkey i ∈ T q.h.nm)) (is := q.h.items) (as := as)
    have e8 : evE (Gm F) (.frz (.comp (.bin .add (.lit (.str [35])) (.idx (.loc 10) (.lit (.int 1)))) (.nm 10) (.of (.loc 7)) (.cmp .eq (.idx (.loc 10) (.lit (.int 0))) (.lit (.str [97, 114, 114, 97, 121])))))
        [some (.d (coreD ps)), some (.r 0), some (.d p.d), some tn, none, some (.d (PS.call q.h.nm as ts).d), some (.d (.tup (q.h.items.map PIt.d))), some (.d (.lst ((pick (fun i => decide (lkey i ∈ T q.h.nm)) q.h.items as).map PA.d))), none, none, none, none] M = .ok (.d (.lst (sl (passK (35 :: ·) (T q.h.nm) q.h.items as))), M) := by
      rw [← pick_pass _ _ hk]
      refine comp_frzE isAr arH rfl rfl (by rw [List.length_map]; omega) (fun d hd => ?_)
      obtain ⟨x, hx, rfl⟩ := List.mem_map.mp hd
      cases x with
      | ar a =>
        have ha : a.length < 100 := po.al (hb (.ar a) (pick_mem hx))
        exact ⟨_, rfl, rfl, fun _ => hash_ev ha rfl rfl⟩
      | va v =>
        refine ⟨_, rfl, ?_, fun c => by rw [show (PA.va v).d = v.d from rfl, va_no] at c; cases c⟩
        rw [show (PA.va v).d = v.d from rfl, va_no]
        cases v with
        | quo q _ _ => cases q <;> rfl
        | pm q _ _ => cases q <;> rfl
        | _ => rfl
    obtain ⟨wp, p1, p2⟩ := hT.ix hp
    have hTl := hB p.h.nm
    have hpl := passK_len (35 :: ·) (T q.h.nm) q.h.items as
    have e9 : evE (Gm F) (.frz (.cat (.idx (.loc 1) (.idx (.loc 2) (.lit (.int 0)))) (.frz (.comp (.bin .add (.lit (.str [35])) (.idx (.loc 10) (.lit (.int 1)))) (.nm 10) (.of (.loc 7)) (.cmp .eq (.idx (.loc 10) (.lit (.int 0))) (.lit (.str [97, 114, 114, 97, 121])))))))
        [some (.d (coreD ps)), some (.r 0), some (.d p.d), some tn, none, some (.d (PS.call q.h.nm as ts).d), some (.d (.tup (q.h.items.map PIt.d))), some (.d (.lst ((pick (fun i => decide (lkey i ∈ T q.h.nm)) q.h.items as).map PA.d))), none, none, none, none] M = .ok (.d (.lst (sl (T p.h.nm ++ passK (35 :: ·) (T q.h.nm) q.h.items as))), M) := by
      refine frz_of ?_
      have ex : evE (Gm F) (.idx (.loc 1) (.idx (.loc 2) (.lit (.int 0)))) [some (.d (coreD ps)), some (.r 0), some (.d p.d), some tn, none, some (.d (PS.call q.h.nm as ts).d), some (.d (.tup (q.h.items.map PIt.d))), some (.d (.lst ((pick (fun i => decide (lkey i ∈ T q.h.nm)) q.h.items as).map PA.d))), none, none, none, none] M = .ok (wp, M) := eve_idx (M1 := M) (y := .d (.str p.h.nm)) (evE_loc rfl) rfl p1
      simp only [evL, ex, e8, TN.R.bind_ok, catSem, p2, Option.bind_some]
      simp only [listOf, Option.bind_some]
      rw [if_pos (by simp only [List.length_map]; unfold line; omega), dl_app]
      simp only [TN.R.of_some, TN.R.bind_ok, sl, List.map_append]
    obtain ⟨M', hs, hT'⟩ := hT.put (by have := C.n1; omega) ⟨p, hp, rfl⟩ (T p.h.nm ++ passK (35 :: ·) (T q.h.nm) q.h.items as)
    have c1 : evSs (Gm F) lm4c (lmE ps (some (.d p.d)) (some tn) none (some (.d (PS.call q.h.nm as ts).d))) M = .ok (.nx, [some (.d (coreD ps)), some (.r 0), some (.d p.d), some tn, none, some (.d (PS.call q.h.nm as ts).d), some (.d (.tup (q.h.items.map PIt.d))), some (.d (.lst ((pick (fun i => decide (lkey i ∈ T q.h.nm)) q.h.items as).map PA.d))), none, none, none, none], M') :=
      (evs_asg e6 rfl).trans ((evs_asg e7 rfl).trans ((evs_set (M1 := M) (M2 := M) (M3 := M) (x := .r 0) (y := .d (.str p.h.nm)) e9 (evE_loc rfl) rfl hs).trans evs_nil))
    refine wps_ifT (a := lm4c) (M1 := M) (x := .d (.bl true)) rfl rfl (Wp.of_eq c1 ?_)
    refine wps_nil ⟨rfl, rfl, hT'.congr fun r _ => ?_⟩
    show (if r.h.nm = p.h.nm then _ else _) = (if r.h.nm = p.h.nm then T r.h.nm ++ passK (35 :: ·) (T q.h.nm) (itemsOf ps q.h.nm) as else T r.h.nm)
    rw [itemsOf_ok C hq]
    split
    · rename_i e; rw [e]
    · rfl
  | _ =>
    refine wps_ifN (M1 := M) (x := .d (.bl false)) rfl rfl (wps_nil ⟨rfl, rfl, hT.congr fun r _ => ?_⟩)
    show T r.h.nm = (if r.h.nm = p.h.nm then T r.h.nm ++ [] else T r.h.nm)
    rw [List.append_nil]
    split <;> rfl
end
end TN


namespace TN
section
variable {F : Nat → List W → Store → TN.R (W × Store)} {k : Nat} {ps : List PP}
abbrev pdK (ps : List PP) : Tb → PS → List Tx := fun T s => psdOf (35 :: ·) ps T s
theorem lm3_go (hF : F = run prog (k + 3)) (C : CoreOk ps) {p : PP} (hp : p ∈ ps) {tn : W} {Q : TN.Flow × Env × Store → Prop} :
    ∀ (l : List PS) (T : Tb) (M : Store) (B : Nat), (∀ u ∈ l, u.fok (ps.map PP.h) p.h) → LTab ps T M → LbT T B → B + 3 * l.length < 100000 → (∀ M, LTab ps (lst1 (pdK ps) p.h.nm l T) M → LbT (lst1 (pdK ps) p.h.nm l T) (B + 3 * l.length) → Q (.nx, lmE ps (some (.d p.d)) (some tn) none none, M)) →
      Wp (forLoop (Tg.nm 5).put (fun s M => evSs (Gm F) fb_law_moves_4 s M) [] (lmE ps (some (.d p.d)) (some tn) none none) (((PS.ds l).map W.d).map Itm.one) (lmE ps (some (.d p.d)) (some tn) none none) M) Q
  | [], T, M, B, ok, hT, hB, hl, hq => wpf_nil (hq M hT hB)
  | u :: l, T, M, B, ok, hT, hB, hl, hq => by
    simp only [List.length_cons] at hl hq
    have ou := ok u (List.mem_cons_self ..)
    have h3 := psd_len (key := (35 :: ·)) (T := T) C ou
    have step := lm4 hF C hp ou (tn := tn) hT hB (by omega)
    rw [PS.ds]
    refine wpf_cons (s1 := lmE ps (some (.d p.d)) (some tn) none (some (.d u.d))) rfl (step.mono fun r hr => ?_)
    obtain ⟨fl, s2, M2⟩ := r
    obtain ⟨rfl, h2, h4⟩ := hr
    simp only at h2 h4
    show guard [] M M2 = true ∧ _
    refine ⟨rfl, ?_⟩
    show Wp (forLoop _ _ _ _ _ (mask _ s2) M2) Q
    rw [h2]
    have hB2 : LbT (fun x => if x = p.h.nm then T x ++ psdOf (35 :: ·) ps T u else T x) (B + 3) := fun x => by
      have := hB x
      show (if x = p.h.nm then T x ++ psdOf (35 :: ·) ps T u else T x).length ≤ _
      split
      · rw [List.length_append]; omega
      · omega
    exact lm3_go hF C hp l _ M2 (B + 3) (fun v hv => ok v (List.mem_cons_of_mem _ hv)) h4 hB2 (by omega) fun M hM hB => hq M hM (hB.mono (by omega))
theorem lm2_go (hF : F = run prog (k + 3)) (C : CoreOk ps) {tn : W} {Q : TN.Flow × Env × Store → Prop} :
    ∀ (l : List PP) (T : Tb) (M : Store) (B : Nat), (∀ p ∈ l, p ∈ ps) → LTab ps T M → LbT T B → B + 200 * l.length < 90000 → (∀ M, LTab ps (lrnd (pdK ps) l T) M → LbT (lrnd (pdK ps) l T) (B + 200 * l.length) → Q (.nx, lmE ps none (some tn) none none, M)) →
      Wp (forLoop (Tg.nm 2).put (fun s M => evSs (Gm F) fb_law_moves_3 s M) [] (lmE ps none (some tn) none none) (((l.map PP.d).map W.d).map Itm.one) (lmE ps none (some tn) none none) M) Q
  | [], T, M, B, hs, hT, hB, hl, hq => wpf_nil (hq M hT hB)
  | p :: l, T, M, B, hs, hT, hB, hl, hq => by
    simp only [List.length_cons] at hl hq
    have hp := hs p (List.mem_cons_self ..)
    have hb := C.bo p hp
    have hl2 := hb.l
    refine wpf_cons (s1 := lmE ps (some (.d p.d)) (some tn) none none) rfl ?_
    refine wps_for (lbody_of (n := 0) hF hb rfl) ?_
    refine lm3_go hF C hp (PS.fls p.body) T M B hb.f hT hB (by omega) fun M2 hT2 hB2 => wps_nil ⟨rfl, ?_⟩
    exact lm2_go hF C l _ M2 (B + 200) (fun q hq => hs q (List.mem_cons_of_mem _ hq)) hT2 (hB2.mono (by omega)) (by omega) fun M hM hB => hq M hM (hB.mono (by omega))
theorem lm1_go (hF : F = run prog (k + 3)) (C : CoreOk ps) {Q : TN.Flow × Env × Store → Prop} :
    ∀ (is : List D) (T : Tb) (M : Store) (B : Nat), LTab ps T M → LbT T B → B + 400 * is.length < 80000 → (∀ M, LTab ps (lrnds (pdK ps) ps is.length T) M → Q (.nx, lmE ps none none none none, M)) →
      Wp (forLoop (Tg.nm 3).put (fun s M => evSs (Gm F) fb_law_moves_2 s M) [] (lmE ps none none none none) ((is.map W.d).map Itm.one) (lmE ps none none none none) M) Q
  | [], T, M, B, hT, hB, hl, hq => wpf_nil (hq M hT)
  | i :: is, T, M, B, hT, hB, hl, hq => by
    simp only [List.length_cons] at hl hq
    have hn := C.n1
    refine wpf_cons (s1 := lmE ps none (some (.d i)) none none) rfl ?_
    refine wps_for (items := ((ps.map PP.d).map W.d).map Itm.one) (gs := []) (M1 := M) rfl ?_
    refine lm2_go hF C ps T M B (fun p hp => hp) hT hB (by omega) fun M2 hT2 hB2 => wps_nil ⟨rfl, ?_⟩
    exact lm1_go hF C is _ M2 (B + 400) hT2 (hB2.mono (by omega)) (by omega) hq
theorem lmoves_ok {k : Nat} {ps : List PP} (C : CoreOk ps) (M : Store) : run prog (k + 4) f_law_moves [.d (coreD ps)] M = .ok (.d (tabD ps (lrnds (pdK ps) ps 20 (iniT ps keysB))), M) := by
  have h : Wp (evSs (Gm (run prog (k + 3))) b_law_moves [some (.d (coreD ps)), none, none, none, none, none, none, none, none, none, none, none] []) fun r => r.1 = .ret (.r 0) ∧ LTab ps (lrnds (pdK ps) ps 20 (iniT ps keysB)) r.2.2 := by
    refine wps_asg (wpe_ok (w := .r 0) (M1 := [.dct [] []]) rfl ⟨lmE ps none none none none, rfl, ?_⟩)
    refine wps_for (items := ((ps.map PP.d).map W.d).map Itm.one) (gs := []) (M1 := [.dct [] []]) rfl ?_
    refine lm0_go rfl C (fun M hM => ?_) ps [] _ rfl (LTab.nil _)
    refine wps_for (items := ((rngD 20).map W.d).map Itm.one) (gs := []) (M1 := M) rfl ?_
    refine lm1_go rfl C (rngD 20) _ M 400 hM (iniT_len fun p hp => ?_) (show 400 + 400 * 20 < 80000 by decide) fun M2 hM2 => ?_
    · have := (C.bo p hp).l
      have e : ∀ l : List PS, (∀ u ∈ l, u.fok (ps.map PP.h) p.h) → (l.flatMap keysOf).length ≤ 2 * l.length := fun l => by
        induction l with
        | nil => intro _; exact Nat.zero_le _
        | cons u l ih =>
          intro hl
          have h1 := ih fun v hv => hl v (List.mem_cons_of_mem _ hv)
          have h2 := keys_le (hl u (List.mem_cons_self ..))
          rw [List.flatMap_cons, List.length_append, List.length_cons]
          omega
      exact Nat.le_trans (e _ (C.bo p hp).f) (by omega)
    · exact wps_ret (wpe_loc ⟨_, rfl, rfl, hM2⟩)
  obtain ⟨⟨fl, s, M'⟩, e, e1, hT⟩ := h.get
  simp only at e1 hT
  subst e1
  exact run_pureF (fd := d_law_moves) rfl rfl rfl rfl e (hT.frz C) M
end
/-- the tables of the program and of the law have the same members -/
theorem moves_same {k : Nat} {ps : List PP} (C : CoreOk ps) : ∃ T, (∀ nm x, x ∈ T nm ↔ x ∈ lrnds (pdK ps) ps 20 (iniT ps keysB) nm) ∧ ∀ M, run prog (k + 5) fmoving_table [.d (coreD ps)] M = .ok (.d (tabD ps T), M) := by
  obtain ⟨T, hT, hr⟩ := mov_ok (k := k) C
  have hm : Mono (pdK ps) := fun T S s y h hy => psd_mono h hy
  have hL := least_law (ps := ps) (U := fun p => p.h.arrays.map (35 :: ·)) hm (fun p hp s hs T y hy => psd_in ((C.bo p hp).f s hs) hy) (fun p hp => by
    rw [List.length_map]
    have := (C.ho p hp).la1
    omega) C.n1 (iniT ps keysB)
  exact ⟨T, fun nm x => hT.same hL nm x, hr⟩
end TN


namespace TN
abbrev ltE (ps : List PP) (P Tn K S : Option W) : Env := [some (.d (coreD ps)), some (.r 0), P, Tn, K, S, none, none, none]
theorem nm_inj {ps : List PP} (C : CoreOk ps) {p q : PP} (hp : p ∈ ps) (hq : q ∈ ps) (e : p.h.nm = q.h.nm) : p = q := by
  have h1 := nd_filter C.nd hp
  have h2 := nd_filter C.nd hq
  rw [e, h2] at h1
  exact (List.cons.inj h1).1.symm
/-- the tables hold arrays alone -/
def Inv (ps : List PP) (T : Tb) : Prop := ∀ q ∈ ps, ∀ x ∈ T q.h.nm, x ∈ q.h.arrays
theorem inv_step {ps : List PP} (C : CoreOk ps) {p : PP} (hp : p ∈ ps) {u : PS} (ou : u.fok (ps.map PP.h) p.h) {T : Tb} (h : Inv ps T) : Inv ps (fun x => if x = p.h.nm then T x ++ psdOf id ps T u else T x) := fun q hq x hx => by
  have h1 : x ∈ (if q.h.nm = p.h.nm then T q.h.nm ++ psdOf id ps T u else T q.h.nm) := hx
  clear hx
  split at h1
  · rename_i e
    rcases List.mem_append.mp h1 with h2 | h2
    · exact h q hq x h2
    · obtain rfl := nm_inj C hq hp e
      have := psd_in ou h2
      rwa [List.map_id] at this
  · exact h q hq x h1
theorem tch_in {hs : List PH} {h : PH} {u : PS} (ou : u.fok hs h) : ∀ x ∈ tchOf u, x ∈ h.arrays := by
  intro x hx
  cases u with
  | push v a => rw [List.mem_singleton.mp hx]; exact ou.2
  | store a v w => rw [List.mem_singleton.mp hx]; exact ou.1
  | pop y a => rw [List.mem_singleton.mp hx]; exact ou.2
  | _ => cases hx
theorem inv_ini {ps : List PP} (C : CoreOk ps) : Inv ps (iniT ps tchB) := fun q hq x hx => by
  rw [iniT_ok C hq] at hx
  obtain ⟨u, hu, hx⟩ := List.mem_flatMap.mp hx
  exact tch_in ((C.bo q hq).f u hu) x hx
def gA : PA → D
  | .ar a => .str a
  | .va _ => .non
theorem pick_pass2 {tab : List Tx} : ∀ (is : List PIt) (as : List PA), as.map PA.isA = is.map PIt.arr → (∀ i ∈ is, i.nm ∈ tab → i.arr = true) → (pick (fun i => decide (i.nm ∈ tab)) is as).map gA = sl (passK id tab is as)
  | [], [], _, _ => rfl
  | [], _ :: _, e, _ => by cases e
  | _ :: _, [], e, _ => by cases e
  | ⟨false, x⟩ :: is, .ar a :: as, e, _ => by simp [PA.isA] at e
  | ⟨true, x⟩ :: is, .va v :: as, e, _ => by simp [PA.isA] at e
  | ⟨false, x⟩ :: is, .va v :: as, e, hi => by
    simp only [List.map_cons, List.cons.injEq] at e
    rw [pick, passK]
    have hx : x ∉ tab := fun c => by
      have := hi ⟨false, x⟩ (List.mem_cons_self ..) c
      cases this
    rw [if_neg (show ¬ decide (x ∈ tab) = true by rw [decide_eq_false hx]; decide)]
    exact pick_pass2 is as e.2 fun i h => hi i (List.mem_cons_of_mem _ h)
  | ⟨true, x⟩ :: is, .ar a :: as, e, hi => by
    simp only [List.map_cons, List.cons.injEq] at e
    have ih := pick_pass2 (tab := tab) is as e.2 fun i h => hi i (List.mem_cons_of_mem _ h)
    rw [pick, passK]
    by_cases hm : x ∈ tab
    · rw [if_pos (show decide (x ∈ tab) = true from decide_eq_true hm), if_pos ⟨rfl, hm⟩, List.map_cons, ih]
      rfl
    · rw [if_neg (show ¬ decide (x ∈ tab) = true by rw [decide_eq_false hm]; decide), if_neg (fun c => hm c.2)]
      exact ih
section
variable {F : Nat → List W → Store → TN.R (W × Store)} {k : Nat} {ps : List PP} {hs : List PH} {h : PH}
theorem ltk_go {P : W} {G : Store} {Q : TN.Flow × Env × Store → Prop} :
    ∀ (l : List PS) (acc : List D), acc.length + l.length < 5000 → Q (.nx, ltE ps (some P) none (some (.r G.length)) none, G ++ [dl (acc ++ sl (l.flatMap tchOf))]) →
      Wp (forLoop (Tg.nm 5).put (fun s M => evSs (Gm F) fb_law_touches_1 s M) [] (ltE ps (some P) none (some (.r G.length)) none) (((PS.ds l).map W.d).map Itm.one) (ltE ps (some P) none (some (.r G.length)) none) (G ++ [dl acc])) Q
  | [], acc, hl, hq => wpf_nil (by have := hq; simp only [List.flatMap_nil, List.map_nil, List.append_nil] at this; exact this)
  | u :: l, acc, hl, hq => by
    simp only [List.length_cons] at hl
    have rest : ∀ (ds : List D), ds.length ≤ 1 → ds = sl (tchOf u) → Wp (forLoop (Tg.nm 5).put (fun s M => evSs (Gm F) fb_law_touches_1 s M) [] (ltE ps (some P) none (some (.r G.length)) none) (((PS.ds l).map W.d).map Itm.one) (ltE ps (some P) none (some (.r G.length)) none) (G ++ [dl (acc ++ ds)])) Q := fun ds hd e => by
      refine ltk_go l _ (by simp only [List.length_append]; omega) ?_
      rw [List.flatMap_cons] at hq
      rw [e]
      simpa [List.append_assoc] using hq
    rw [PS.ds]
    refine wpf_cons (s1 := ltE ps (some P) none (some (.r G.length)) (some (.d u.d))) rfl ?_
    have app : ∀ (a : Tx) (e : E), evE (Gm F) e (ltE ps (some P) none (some (.r G.length)) (some (.d u.d))) (G ++ [dl acc]) = .ok (.d (.str a), G ++ [dl acc]) → Wp (evSs (Gm F) (.cons (.expr (.mth .append (.loc 4) (.cons e .nil))) .nil) (ltE ps (some P) none (some (.r G.length)) (some (.d u.d))) (G ++ [dl acc])) fun r => r = (.nx, ltE ps (some P) none (some (.r G.length)) (some (.d u.d)), G ++ [dl (acc ++ [.str a])]) := fun a e he => by
      refine wps_expr (wpe_app (G := G) rfl rfl (wpe_ok he ⟨G, rfl, rfl, by rw [List.length_map]; unfold line; omega, wps_nil ?_⟩))
      rw [show acc.map W.d ++ [W.d (.str a)] = (acc ++ [D.str a]).map W.d by simp]
    cases u with
    | store a v w' =>
      refine wps_ifT (M1 := G ++ [dl acc]) (x := .d (.bl true)) rfl rfl ((app a _ rfl).mono ?_)
      rintro r rfl
      exact wps_nil ⟨rfl, rest _ (Nat.le_refl 1) rfl⟩
    | push v a =>
      refine wps_ifF (M1 := G ++ [dl acc]) (x := .d (.bl false)) rfl rfl ?_
      refine wps_ifT (M1 := G ++ [dl acc]) (x := .d (.bl true)) rfl rfl ((app a _ rfl).mono ?_)
      rintro r rfl
      exact wps_nil (wps_nil ⟨rfl, rest _ (Nat.le_refl 1) rfl⟩)
    | pop x a =>
      refine wps_ifF (M1 := G ++ [dl acc]) (x := .d (.bl false)) rfl rfl ?_
      refine wps_ifT (M1 := G ++ [dl acc]) (x := .d (.bl true)) rfl rfl ((app a _ rfl).mono ?_)
      rintro r rfl
      exact wps_nil (wps_nil ⟨rfl, rest _ (Nat.le_refl 1) rfl⟩)
    | _ =>
      refine wps_ifF (M1 := G ++ [dl acc]) (x := .d (.bl false)) rfl rfl ?_
      refine wps_ifF (M1 := G ++ [dl acc]) (x := .d (.bl false)) rfl rfl ?_
      have := rest [] (Nat.zero_le 1) rfl
      rw [List.append_nil] at this
      exact wps_nil (wps_nil ⟨rfl, this⟩)
theorem lt0_go (hF : F = run prog (k + 3)) (C : CoreOk ps) {Q : TN.Flow × Env × Store → Prop} (hq : ∀ M, LTab ps (iniT ps tchB) M → Q (.nx, ltE ps none none none none, M)) :
    ∀ (rest done : List PP) (M : Store), ps = done ++ rest → LTab done (iniT ps tchB) M → Wp (forLoop (Tg.nm 2).put (fun s M => evSs (Gm F) fb_law_touches_0 s M) [] (ltE ps none none none none) (((rest.map PP.d).map W.d).map Itm.one) (ltE ps none none none none) M) Q
  | [], done, M, e, h => wpf_nil (hq M (by rw [List.append_nil] at e; rw [e] at h ⊢; exact h))
  | p :: rest, done, M, e, h => by
    have hp : p ∈ ps := by rw [e]; simp
    have hb := C.bo p hp
    have hl := hb.l
    have hd : ∀ q ∈ done, q.h.nm ≠ p.h.nm := fun q hq e2 => by
      have nd := C.nd
      rw [e, List.map_append, List.map_cons, List.nodup_append] at nd
      exact nd.2.2 _ (List.mem_map.mpr ⟨q, hq, rfl⟩) _ (List.mem_cons_self ..) e2
    have hdl : done.length < 100 := by
      have := C.n1
      rw [e, List.length_append] at this
      omega
    refine wpf_cons (s1 := ltE ps (some (.d p.d)) none none none) rfl ?_
    refine wps_asg (wpe_ok (w := .r M.length) (M1 := M ++ [dl []]) rfl ⟨ltE ps (some (.d p.d)) none (some (.r M.length)) none, rfl, ?_⟩)
    refine wps_for (lbody_of (n := 0) hF hb rfl) ?_
    refine ltk_go (G := M) (PS.fls p.body) [] (by simp only [List.length_nil]; omega) ?_
    rw [List.nil_append]
    obtain ⟨M', hs, hT⟩ := (h.more (X := [dl (sl (tchB p))])).new (p := p) hd hdl (w := .r M.length) (by
      rw [iniT_ok C hp]
      simp only [listOf, get_last])
    refine wps_set (M1 := M ++ [dl (sl (tchB p))]) (M2 := M ++ [dl (sl (tchB p))]) (M3 := M ++ [dl (sl (tchB p))]) (w := .r M.length) (x := .r 0) (y := .d (.str p.h.nm)) (evE_loc rfl) (evE_loc rfl) (eve_idx (M1 := M ++ [dl (sl (tchB p))]) (x := .d p.d) (evE_loc rfl) rfl rfl) hs ?_
    refine wps_nil ⟨rfl, ?_⟩
    exact lt0_go hF C hq rest (done ++ [p]) M' (by rw [e]; simp) hT
abbrev lt4c : Ss := match fb_law_touches_4 with | .cons (.ifs _ a _) _ => a | _ => .nil
theorem lt4 (hF : F = run prog (k + 3)) (C : CoreOk ps) {p : PP} (hp : p ∈ ps) {u : PS} (ou : u.fok (ps.map PP.h) p.h) {tn : W} {T : Tb} {M : Store} {B : Nat} (hT : LTab ps T M) (hB : LbT T B) (hB2 : B < 100000) (hI : Inv ps T) :
    Wp (evSs (Gm F) fb_law_touches_4 (ltE ps (some (.d p.d)) (some tn) none (some (.d u.d))) M) fun r => r.1 = .nx ∧ mask (ltE ps (some (.d p.d)) (some tn) none none) r.2.1 = ltE ps (some (.d p.d)) (some tn) none none ∧ LTab ps (fun x => if x = p.h.nm then T x ++ psdOf id ps T u else T x) r.2.2 := by
  cases u with
  | call f as ts =>
    obtain ⟨g, hg, rfl, hk, hb, _, _⟩ := ou
    obtain ⟨q, hq, rfl⟩ := mem_heads hg
    have qo := C.ho q hq
    have hn := qo.ni
    have po := C.ho p hp
    have hlen : q.h.items.length = as.length := by
      have := congrArg List.length hk
      simpa using this.symm
    have e6 : evE (Gm F) (.idx (.call f_law_proc (.cons (.loc 0) (.cons (.idx (.loc 5) (.lit (.int 1))) .nil))) (.lit (.int 1))) (ltE ps (some (.d p.d)) (some tn) none (some (.d (PS.call q.h.nm as ts).d))) M = .ok (.d (.tup (q.h.items.map PIt.d)), M) := by
      refine eve_idx (M1 := M) (M2 := M) (x := .d q.d) (y := .d (.int 1)) ?_ rfl rfl
      show (F f_law_proc [.d (coreD ps), .d (.str q.h.nm)] M).from _ = _
      rw [hF, lpn_ok (k := k + 2) C hq]
      rfl
    have har : ∀ i ∈ q.h.items, i.nm ∈ T q.h.nm → i.arr = true := fun i hi hm => by
      have h1 := hI q hq _ hm
      cases ha : i.arr with
      | true => rfl
      | false =>
        refine absurd h1 (qo.dj _ ?_)
        exact List.mem_map.mpr ⟨i, List.mem_filter.mpr ⟨List.mem_append_left _ hi, by rw [ha]; rfl⟩, rfl⟩
    obtain ⟨wq, q1, q2⟩ := hT.reads q hq
    have e7 : evE (Gm F) (.frz (.comp (.idx (.idx (.idx (.loc 5) (.lit (.int 2))) (.loc 8)) (.lit (.int 1))) (.nm 8) (.rng (.cons (.bi .len (.cons (.loc 6) .nil)) .nil)) (.cmp .isIn (.idx (.idx (.loc 6) (.loc 8)) (.lit (.int 1))) (.idx (.loc 1) (.idx (.loc 5) (.lit (.int 1)))))))
        [some (.d (coreD ps)), some (.r 0), some (.d p.d), some tn, none, some (.d (PS.call q.h.nm as ts).d), some (.d (.tup (q.h.items.map PIt.d))), none, none] M = .ok (.d (.lst (sl (passK id (T q.h.nm) q.h.items as))), M) := by
      have ei : evI (Gm F) (.rng (.cons (.bi .len (.cons (.loc 6) .nil)) .nil)) [some (.d (coreD ps)), some (.r 0), some (.d p.d), some tn, none, some (.d (PS.call q.h.nm as ts).d), some (.d (.tup (q.h.items.map PIt.d))), none, none] M = .ok (((rngD q.h.items.length).map W.d).map Itm.one, [], M) := by
        rw [← rngD_items]
        refine evI_rng (ws := [.d (.int (q.h.items.length : Int))]) (eve_one (eve_bi (ws := [.d (.tup (q.h.items.map PIt.d))]) (eve_one (evE_loc rfl)) ?_)) (rng_nat (by omega))
        show some (W.d (.int ((q.h.items.map PIt.d).length : Int))) = _
        rw [List.length_map]
      rw [← pick_pass2 _ _ hk har, ← rngD_pick (fun i => decide (i.nm ∈ T q.h.nm)) gA hlen]
      refine comp_frzE (iF q.h.items fun i => decide (i.nm ∈ T q.h.nm)) (aF as gA) ei rfl (by simp [rngD]; omega) (fun d hd => ?_)
      obtain ⟨i, hi, rfl⟩ := List.mem_map.mp hd
      have hi := List.mem_range.mp hi
      have hp2 : iF q.h.items (fun i => decide (i.nm ∈ T q.h.nm)) (D.int (0 + (i : Int))) = decide (q.h.items[i].nm ∈ T q.h.nm) := by
        show decide (((q.h.items[(0 + (i : Int)).toNat]?).getD _).nm ∈ T q.h.nm) = _
        rw [Int.zero_add, Int.toNat_natCast, List.getElem?_eq_getElem hi]
        rfl
      refine ⟨_, rfl, ?_, fun c => ?_⟩
      · rw [hp2]
        have ek : evE (Gm F) (.idx (.idx (.loc 6) (.loc 8)) (.lit (.int 1))) [some (.d (coreD ps)), some (.r 0), some (.d p.d), some tn, none, some (.d (PS.call q.h.nm as ts).d), some (.d (.tup (q.h.items.map PIt.d))), none, some (.d (.int (0 + (i : Int))))] M = .ok (.d (.str q.h.items[i].nm), M) := by
          refine eve_idx (M1 := M) (M2 := M) (x := .d q.h.items[i].d) (y := .d (.int 1)) (eve_idx (M1 := M) (x := .d (.tup (q.h.items.map PIt.d))) (y := .d (.int (0 + (i : Int)))) (evE_loc rfl) (evE_loc rfl) ?_) rfl rfl
          rw [tup_at (by rw [List.length_map]; exact hi), List.getElem_map]
        exact eve_cmp ek (eve_idx (M1 := M) (y := .d (.str q.h.nm)) (evE_loc rfl) rfl q1) (q2 _)
      · rw [hp2] at c
        have ha := har _ (List.getElem_mem hi) (of_decide_eq_true c)
        have hi2 : i < as.length := by omega
        have hka : as[i].isA = q.h.items[i].arr := by
          have h1 : (as.map PA.isA)[i]? = (q.h.items.map PIt.arr)[i]? := by rw [hk]
          rw [List.getElem?_map, List.getElem?_map, List.getElem?_eq_getElem hi2, List.getElem?_eq_getElem hi] at h1
          exact Option.some.inj h1
        have hg : aF as gA (D.int (0 + (i : Int))) = gA as[i] := by
          show gA ((as[(0 + (i : Int)).toNat]?).getD _) = _
          rw [Int.zero_add, Int.toNat_natCast, List.getElem?_eq_getElem hi2]
          rfl
        rw [hg]
        have ea : evE (Gm F) (.idx (.idx (.loc 5) (.lit (.int 2))) (.loc 8)) [some (.d (coreD ps)), some (.r 0), some (.d p.d), some tn, none, some (.d (PS.call q.h.nm as ts).d), some (.d (.tup (q.h.items.map PIt.d))), none, some (.d (.int (0 + (i : Int))))] M = .ok (.d as[i].d, M) := by
          refine eve_idx (M1 := M) (x := .d (.tup (as.map PA.d))) (y := .d (.int (0 + (i : Int)))) rfl (evE_loc rfl) ?_
          rw [tup_at (by rw [List.length_map]; omega), List.getElem_map]
        refine eve_idx (M1 := M) (M2 := M) (x := .d as[i].d) (y := .d (.int 1)) ea rfl ?_
        rw [ha] at hka
        cases hx : as[i] with
        | ar a => rfl
        | va v => rw [hx] at hka; cases hka
    obtain ⟨wp, p1, p2⟩ := hT.ix hp
    have hTl := hB p.h.nm
    have hpl := passK_len id (T q.h.nm) q.h.items as
    have e9 : evE (Gm F) (.frz (.cat (.idx (.loc 1) (.idx (.loc 2) (.lit (.int 0)))) (.loc 7))) [some (.d (coreD ps)), some (.r 0), some (.d p.d), some tn, none, some (.d (PS.call q.h.nm as ts).d), some (.d (.tup (q.h.items.map PIt.d))), some (.d (.lst (sl (passK id (T q.h.nm) q.h.items as)))), none] M = .ok (.d (.lst (sl (T p.h.nm ++ passK id (T q.h.nm) q.h.items as))), M) := by
      refine frz_of ?_
      have ex : evE (Gm F) (.idx (.loc 1) (.idx (.loc 2) (.lit (.int 0)))) [some (.d (coreD ps)), some (.r 0), some (.d p.d), some tn, none, some (.d (PS.call q.h.nm as ts).d), some (.d (.tup (q.h.items.map PIt.d))), some (.d (.lst (sl (passK id (T q.h.nm) q.h.items as)))), none] M = .ok (wp, M) := eve_idx (M1 := M) (y := .d (.str p.h.nm)) (evE_loc rfl) rfl p1
      have e8 : evE (Gm F) (.loc 7) [some (.d (coreD ps)), some (.r 0), some (.d p.d), some tn, none, some (.d (PS.call q.h.nm as ts).d), some (.d (.tup (q.h.items.map PIt.d))), some (.d (.lst (sl (passK id (T q.h.nm) q.h.items as)))), none] M = .ok (.d (.lst (sl (passK id (T q.h.nm) q.h.items as))), M) := evE_loc rfl
      simp only [evL, ex, e8, TN.R.bind_ok, catSem, p2, Option.bind_some]
      simp only [listOf, Option.bind_some]
      rw [if_pos (by simp only [List.length_map]; unfold line; omega), dl_app]
      simp only [TN.R.of_some, TN.R.bind_ok, sl, List.map_append]
    obtain ⟨M', hs, hT'⟩ := hT.put (by have := C.n1; omega) ⟨p, hp, rfl⟩ (T p.h.nm ++ passK id (T q.h.nm) q.h.items as)
    have c1 : evSs (Gm F) lt4c (ltE ps (some (.d p.d)) (some tn) none (some (.d (PS.call q.h.nm as ts).d))) M = .ok (.nx, [some (.d (coreD ps)), some (.r 0), some (.d p.d), some tn, none, some (.d (PS.call q.h.nm as ts).d), some (.d (.tup (q.h.items.map PIt.d))), some (.d (.lst (sl (passK id (T q.h.nm) q.h.items as)))), none], M') :=
      (evs_asg e6 rfl).trans ((evs_asg e7 rfl).trans ((evs_set (M1 := M) (M2 := M) (M3 := M) (x := .r 0) (y := .d (.str p.h.nm)) e9 (evE_loc rfl) rfl hs).trans evs_nil))
    refine wps_ifT (a := lt4c) (M1 := M) (x := .d (.bl true)) rfl rfl (Wp.of_eq c1 ?_)
    refine wps_nil ⟨rfl, rfl, hT'.congr fun r _ => ?_⟩
    show (if r.h.nm = p.h.nm then _ else _) = (if r.h.nm = p.h.nm then T r.h.nm ++ passK id (T q.h.nm) (itemsOf ps q.h.nm) as else T r.h.nm)
    rw [itemsOf_ok C hq]
    split
    · rename_i e; rw [e]
    · rfl
  | _ =>
    refine wps_ifN (M1 := M) (x := .d (.bl false)) rfl rfl (wps_nil ⟨rfl, rfl, hT.congr fun r _ => ?_⟩)
    show T r.h.nm = (if r.h.nm = p.h.nm then T r.h.nm ++ [] else T r.h.nm)
    rw [List.append_nil]
    split <;> rfl
abbrev pdI (ps : List PP) : Tb → PS → List Tx := fun T s => psdOf id ps T s
theorem lt3_go (hF : F = run prog (k + 3)) (C : CoreOk ps) {p : PP} (hp : p ∈ ps) {tn : W} {Q : TN.Flow × Env × Store → Prop} :
    ∀ (l : List PS) (T : Tb) (M : Store) (B : Nat), Inv ps T → (∀ u ∈ l, u.fok (ps.map PP.h) p.h) → LTab ps T M → LbT T B → B + 3 * l.length < 100000 → (∀ M, LTab ps (lst1 (pdI ps) p.h.nm l T) M → LbT (lst1 (pdI ps) p.h.nm l T) (B + 3 * l.length) → Inv ps (lst1 (pdI ps) p.h.nm l T) → Q (.nx, ltE ps (some (.d p.d)) (some tn) none none, M)) →
      Wp (forLoop (Tg.nm 5).put (fun s M => evSs (Gm F) fb_law_touches_4 s M) [] (ltE ps (some (.d p.d)) (some tn) none none) (((PS.ds l).map W.d).map Itm.one) (ltE ps (some (.d p.d)) (some tn) none none) M) Q
  | [], T, M, B, hI, ok, hT, hB, hl, hq => wpf_nil (hq M hT hB hI)
  | u :: l, T, M, B, hI, ok, hT, hB, hl, hq => by
    simp only [List.length_cons] at hl hq
    have ou := ok u (List.mem_cons_self ..)
    have h3 := psd_len (key := id) (T := T) C ou
    have step := lt4 hF C hp ou (tn := tn) hT hB (by omega) hI
    rw [PS.ds]
    refine wpf_cons (s1 := ltE ps (some (.d p.d)) (some tn) none (some (.d u.d))) rfl (step.mono fun r hr => ?_)
    obtain ⟨fl, s2, M2⟩ := r
    obtain ⟨rfl, h2, h4⟩ := hr
    simp only at h2 h4
    show guard [] M M2 = true ∧ _
    refine ⟨rfl, ?_⟩
    show Wp (forLoop _ _ _ _ _ (mask _ s2) M2) Q
    rw [h2]
    have hB2 : LbT (fun x => if x = p.h.nm then T x ++ psdOf id ps T u else T x) (B + 3) := fun x => by
      have := hB x
      show (if x = p.h.nm then T x ++ psdOf id ps T u else T x).length ≤ _
      split
      · rw [List.length_append]; omega
      · omega
    exact lt3_go hF C hp l _ M2 (B + 3) (inv_step C hp ou hI) (fun v hv => ok v (List.mem_cons_of_mem _ hv)) h4 hB2 (by omega) fun M hM hB hI => hq M hM (hB.mono (by omega)) hI
theorem lt2_go (hF : F = run prog (k + 3)) (C : CoreOk ps) {tn : W} {Q : TN.Flow × Env × Store → Prop} :
    ∀ (l : List PP) (T : Tb) (M : Store) (B : Nat), Inv ps T → (∀ p ∈ l, p ∈ ps) → LTab ps T M → LbT T B → B + 200 * l.length < 90000 → (∀ M, LTab ps (lrnd (pdI ps) l T) M → LbT (lrnd (pdI ps) l T) (B + 200 * l.length) → Inv ps (lrnd (pdI ps) l T) → Q (.nx, ltE ps none (some tn) none none, M)) →
      Wp (forLoop (Tg.nm 2).put (fun s M => evSs (Gm F) fb_law_touches_3 s M) [] (ltE ps none (some tn) none none) (((l.map PP.d).map W.d).map Itm.one) (ltE ps none (some tn) none none) M) Q
  | [], T, M, B, hI, hs, hT, hB, hl, hq => wpf_nil (hq M hT hB hI)
  | p :: l, T, M, B, hI, hs, hT, hB, hl, hq => by
    simp only [List.length_cons] at hl hq
    have hp := hs p (List.mem_cons_self ..)
    have hb := C.bo p hp
    have hl2 := hb.l
    refine wpf_cons (s1 := ltE ps (some (.d p.d)) (some tn) none none) rfl ?_
    refine wps_for (lbody_of (n := 0) hF hb rfl) ?_
    refine lt3_go hF C hp (PS.fls p.body) T M B hI hb.f hT hB (by omega) fun M2 hT2 hB2 hI2 => wps_nil ⟨rfl, ?_⟩
    exact lt2_go hF C l _ M2 (B + 200) hI2 (fun q hq => hs q (List.mem_cons_of_mem _ hq)) hT2 (hB2.mono (by omega)) (by omega) fun M hM hB hI => hq M hM (hB.mono (by omega)) hI
theorem lt1_go (hF : F = run prog (k + 3)) (C : CoreOk ps) {Q : TN.Flow × Env × Store → Prop} :
    ∀ (is : List D) (T : Tb) (M : Store) (B : Nat), Inv ps T → LTab ps T M → LbT T B → B + 400 * is.length < 80000 → (∀ M, LTab ps (lrnds (pdI ps) ps is.length T) M → Q (.nx, ltE ps none none none none, M)) →
      Wp (forLoop (Tg.nm 3).put (fun s M => evSs (Gm F) fb_law_touches_2 s M) [] (ltE ps none none none none) ((is.map W.d).map Itm.one) (ltE ps none none none none) M) Q
  | [], T, M, B, hI, hT, hB, hl, hq => wpf_nil (hq M hT)
  | i :: is, T, M, B, hI, hT, hB, hl, hq => by
    simp only [List.length_cons] at hl hq
    have hn := C.n1
    refine wpf_cons (s1 := ltE ps none (some (.d i)) none none) rfl ?_
    refine wps_for (items := ((ps.map PP.d).map W.d).map Itm.one) (gs := []) (M1 := M) rfl ?_
    refine lt2_go hF C ps T M B hI (fun p hp => hp) hT hB (by omega) fun M2 hT2 hB2 hI2 => wps_nil ⟨rfl, ?_⟩
    exact lt1_go hF C is _ M2 (B + 400) hI2 hT2 (hB2.mono (by omega)) (by omega) hq
theorem ltouch_ok {k : Nat} {ps : List PP} (C : CoreOk ps) (M : Store) : run prog (k + 4) f_law_touches [.d (coreD ps)] M = .ok (.d (tabD ps (lrnds (pdI ps) ps 20 (iniT ps tchB))), M) := by
  have h : Wp (evSs (Gm (run prog (k + 3))) b_law_touches [some (.d (coreD ps)), none, none, none, none, none, none, none, none] []) fun r => r.1 = .ret (.r 0) ∧ LTab ps (lrnds (pdI ps) ps 20 (iniT ps tchB)) r.2.2 := by
    refine wps_asg (wpe_ok (w := .r 0) (M1 := [.dct [] []]) rfl ⟨ltE ps none none none none, rfl, ?_⟩)
    refine wps_for (items := ((ps.map PP.d).map W.d).map Itm.one) (gs := []) (M1 := [.dct [] []]) rfl ?_
    refine lt0_go rfl C (fun M hM => ?_) ps [] _ rfl (LTab.nil _)
    refine wps_for (items := ((rngD 20).map W.d).map Itm.one) (gs := []) (M1 := M) rfl ?_
    refine lt1_go rfl C (rngD 20) _ M 400 (inv_ini C) hM (iniT_len fun p hp => ?_) (show 400 + 400 * 20 < 80000 by decide) fun M2 hM2 => ?_
    · have := (C.bo p hp).l
      have e : ∀ l : List PS, (l.flatMap tchOf).length ≤ l.length := fun l => by
        induction l with
        | nil => exact Nat.zero_le _
        | cons u l ih =>
          have h2 : (tchOf u).length ≤ 1 := by cases u <;> simp [tchOf]
          rw [List.flatMap_cons, List.length_append, List.length_cons]
          omega
      exact Nat.le_trans (e _) (by omega)
    · exact wps_ret (wpe_loc ⟨_, rfl, rfl, hM2⟩)
  obtain ⟨⟨fl, s, M'⟩, e, e1, hT⟩ := h.get
  simp only at e1 hT
  subst e1
  exact run_pureF (fd := d_law_touches) rfl rfl rfl rfl e (hT.frz C) M
end
theorem touch_same {k : Nat} {ps : List PP} (C : CoreOk ps) : ∃ T, (∀ nm x, x ∈ T nm ↔ x ∈ lrnds (pdI ps) ps 20 (iniT ps tchB) nm) ∧ ∀ M, run prog (k + 5) ftouched_table [.d (coreD ps)] M = .ok (.d (tabD ps T), M) := by
  obtain ⟨T, hT, hr⟩ := tch_ok (k := k) C
  have hm : Mono (pdI ps) := fun T S s y h hy => psd_mono h hy
  have hL := least_law (ps := ps) (U := fun p => p.h.arrays.map id) hm (fun p hp s hs T y hy => psd_in ((C.bo p hp).f s hs) hy) (fun p hp => by
    rw [List.length_map]
    have := (C.ho p hp).la1
    omega) C.n1 (iniT ps tchB)
  exact ⟨T, fun nm x => hT.same hL nm x, hr⟩
end TN


namespace TN
theorem ev_call {F : Nat → List W → Store → TN.R (W × Store)} {k g : Nat} {es : Es} {s : Env} {M M1 : Store} {ws : List W} {w : W} (hF : F = run prog k) (a : evEs (Gm F) es s M = .ok (ws, M1)) (b : ∀ M, run prog k g ws M = .ok (w, M)) : evE (Gm F) (.call g es) s M = .ok (w, M1) := by
  simp only [evE, a, TN.R.bind_ok]
  show (F g ws M1).from s = _
  rw [hF, b]; rfl
theorem eve_orF {Γ : Ctx} {s : Env} {M M1 : Store} {a b : E} {x : W} {r : TN.R (W × Store)} (h1 : evE Γ a s M = .ok (x, M1)) (ht : tru M1 x = some false) (h2 : evE Γ b s M1 = r) : evE Γ (.or (.cons a (.cons b .nil))) s M = r := by
  simp only [evE, evOr, h1, ht, TN.R.bind_ok, TN.R.of_some, Bool.false_eq_true, if_false, h2]
/-- an if whose block returns -/
theorem wps_ifR {Γ : Ctx} {s : Env} {M M1 : Store} {c : E} {a b ss : Ss} {x : W} {Q : TN.Flow × Env × Store → Prop} (h1 : evE Γ c s M = .ok (x, M1)) (h2 : tru M1 x = some true) (h : Wp (evSs Γ a s M1) fun r => (∃ w, r.1 = .ret w) ∧ Q r) : Wp (evSs Γ (.cons (.ifs c a b) ss) s M) Q := by
  refine wps_ifT h1 h2 (h.mono fun r hr => ?_)
  obtain ⟨f, s, M⟩ := r
  obtain ⟨⟨w, e⟩, q⟩ := hr
  simp only at e
  subst e
  exact q
/-! ### the same datum -/
def Gd : Nat → D → Prop
  | 0, d => (∃ i, d = .int i) ∨ ∃ s, d = .str s
  | n + 1, d => (∃ i, d = .int i) ∨ (∃ s, d = .str s) ∨ ∃ xs, d = .tup xs ∧ xs.length ≤ 1000 ∧ ∀ x ∈ xs, Gd n x
theorem same_int (i : Int) (k : Nat) (M : Store) : run prog (k + 2) f_law_same [.d (.int i), .d (.int i)] M = .ok (.d (.bl true), M) := by
  refine run_pureW (fd := d_law_same) rfl rfl rfl rfl fun F hF => ?_
  show Wp (evSs (Gm F) b_law_same [some (.d (.int i)), some (.d (.int i)), none] []) _
  refine wps_ifN (x := .d (.bl false)) (M1 := []) rfl rfl ?_
  refine wps_ifN (x := .d (.bl false)) (M1 := []) rfl rfl ?_
  have e1 : evE (Gm F) (.call f_law_is_int (.cons (.loc 0) .nil)) [some (.d (.int i)), some (.d (.int i)), none] [] = .ok (.d (.bl true), []) := ev_call hF (M1 := []) rfl (fun M => by kernel_rfl)
  have e2 : cmpSem ([] : Store) .eq (.d (.int i)) (.d (.int i)) = some true := by
    show some (i == i) = some true
    simp
  exact wps_ret (wpe_ok (eve_and2 (x := .d (.bl true)) (M1 := []) e1 rfl (eve_cmp (M1 := []) (M2 := []) (x := .d (.int i)) (y := .d (.int i)) rfl rfl e2)) rfl)
theorem same_str (s : Tx) (k : Nat) (M : Store) : run prog (k + 2) f_law_same [.d (.str s), .d (.str s)] M = .ok (.d (.bl true), M) := by
  refine run_pureW (fd := d_law_same) rfl rfl rfl rfl fun F hF => ?_
  show Wp (evSs (Gm F) b_law_same [some (.d (.str s)), some (.d (.str s)), none] []) _
  refine wps_ifN (x := .d (.bl false)) (M1 := []) rfl rfl ?_
  refine wps_ifT (x := .d (.bl true)) (M1 := []) rfl rfl ?_
  have e2 : cmpSem ([] : Store) .eq (.d (.str s)) (.d (.str s)) = some true := by
    show some (decide (s = s)) = some true
    simp
  exact wps_ret (wpe_ok (eve_and2 (x := .d (.bl true)) (M1 := []) rfl rfl (eve_cmp (M1 := []) (M2 := []) (x := .d (.str s)) (y := .d (.str s)) rfl rfl e2)) rfl)
theorem evs_ret {Γ : Ctx} {s : Env} {M M1 : Store} {e : E} {ss : Ss} {w : W} (h : evE Γ e s M = .ok (w, M1)) : evSs Γ (.cons (.ret e) ss) s M = .ok (.ret w, s, M1) := by
  simp only [evSs, evS, h, TN.R.from_ok, TN.R.bind_ok]
theorem evs_ifR {Γ : Ctx} {s s2 : Env} {M M1 M2 : Store} {c : E} {a b ss : Ss} {x w : W} (h1 : evE Γ c s M = .ok (x, M1)) (h2 : tru M1 x = some true) (h3 : evSs Γ a s M1 = .ok (.ret w, s2, M2)) : evSs Γ (.cons (.ifs c a b) ss) s M = .ok (.ret w, s2, M2) := by
  simp only [evSs, evS, evTest, h1, h2, h3, TN.R.from_ok, TN.R.bind_ok, TN.R.of_some, if_true]
theorem evs_ifN {Γ : Ctx} {s : Env} {M M1 : Store} {c : E} {a ss : Ss} {x : W} {r : TN.R (TN.Flow × Env × Store)} (h1 : evE Γ c s M = .ok (x, M1)) (h2 : tru M1 x = some false) (h3 : evSs Γ ss s M1 = r) : evSs Γ (.cons (.ifs c a .nil) ss) s M = r := by
  simp only [evSs, evS, evTest, h1, h2, h3, TN.R.from_ok, TN.R.bind_ok, TN.R.of_some, Bool.false_eq_true, if_false]
theorem eve_len {Γ : Ctx} {e : E} {s : Env} {M M1 : Store} {x : W} {n : Nat} (h1 : evE Γ e s M = .ok (x, M1)) (h2 : lenOf M1 x = some n) : evE Γ (.bi .len (.cons e .nil)) s M = .ok (.d (.int n), M1) := eve_bi (eve_one h1) (by simp [biSem, h2])
/-- a comprehension without a test, all of whose answers are True -/
theorem eve_allT {Γ : Ctx} {e : E} {it : I} {i : Nat} {s : Env} {M : Store} {items : List Itm} (er : evI Γ it s M = .ok (items, [], M)) (hM : Pu M) (hl : items.length ≤ 1000) (h : ∀ x ∈ items, ∃ s1, Tg.put (.nm i) x (TN.wipe s (Tg.nm i).slots) = some s1 ∧ evE Γ e s1 M = .ok (.d (.bl true), M)) :
    evE Γ (.bi .all (.cons (.frz (.comp e (.nm i) it .no)) .nil)) s M = .ok (.d (.bl true), M) := by
  obtain ⟨p, e1, e2⟩ := (comp_bl (bt := fun x => Tg.put (.nm i) x (TN.wipe s (Tg.nm i).slots)) (c := fun s M => if E.no.isNo then .ok (true, M) else (evE Γ .no s M).bind fun (x, M) => (TN.R.of (tru M x)).bind fun b => .ok (b, M)) (e := fun s M => evE Γ e s M) (gs := []) (Q := fun r => r = ((items.map fun _ => true).map fun b => W.d (.bl b), M)) hM (fun _ => true) (fun s => rfl) items [] (by simp; omega) h (by simp)).get
  subst e2
  have e3 : evL Γ (.comp e (.nm i) it .no) s M = .ok ((items.map fun _ => true).map fun b => W.d (.bl b), M) := by
    simp only [evL, er, TN.R.bind_ok]
    rw [e1]; rfl
  have e4 : evE Γ (.frz (.comp e (.nm i) it .no)) s M = .ok (.d (.lst ((items.map fun _ => true).map D.bl)), M) := by
    simp only [evE, e3, TN.R.bind_ok, toDs_bl, TN.R.of_some]
  refine eve_bi (eve_one e4) ?_
  rw [all_bl]
  simp
theorem rng_j (j : Int) (h1 : -(2 ^ 62) ≤ j) (h2 : j < 2 ^ 62) : rngSem [.d (.int j)] = some (rngItems 0 j.toNat) := if_pos ⟨h1, h2⟩
theorem p62 : (2 : Int) ^ 62 = 4611686018427387904 := rfl
theorem nat_lo (n : Nat) : -(2 ^ 62) ≤ (n : Int) := by rw [p62]; omega
theorem nat_hi (n : Nat) (h : n ≤ 1000) : (n : Int) < 2 ^ 62 := by rw [p62]; omega
theorem rng_n (n : Nat) (h : n ≤ 1000) : rngSem [.d (.int (n : Int))] = some (rngItems 0 n) := by
  have e2 := rng_j (n : Int) (nat_lo _) (nat_hi _ h)
  rw [Int.toNat_natCast] at e2
  exact e2
theorem ne_n (M : Store) (n : Nat) : cmpSem M .ne (.d (.int (n : Int))) (.d (.int (n : Int))) = some false := by
  show (some (((n : Int)) == (n : Int))).map not = _
  simp
theorem same_tup {F : Nat → List W → Store → TN.R (W × Store)} {k : Nat} (hF : F = run prog k) {xs : List D} (hl : xs.length ≤ 1000) (ih : ∀ x ∈ xs, ∀ M, run prog k f_law_same [.d x, .d x] M = .ok (.d (.bl true), M)) :
    evSs (Gm F) b_law_same [some (.d (.tup xs)), some (.d (.tup xs)), none] [] = .ok (.ret (.d (.bl true)), [some (.d (.tup xs)), some (.d (.tup xs)), none], []) := by
  refine evs_ifR (x := .d (.bl true)) (M1 := []) rfl rfl (evs_ifN (x := .d (.bl false)) (M1 := []) (eve_orF (x := .d (.bl false)) (M1 := []) rfl rfl (eve_cmp (M1 := []) (M2 := []) (eve_len (e := .loc 0) (x := .d (.tup xs)) (n := xs.length) rfl rfl) (eve_len (e := .loc 1) (x := .d (.tup xs)) (n := xs.length) rfl rfl) (ne_n _ _))) rfl (evs_ret (eve_allT (evI_rng (eve_one (eve_len (e := .loc 1) (x := .d (.tup xs)) (n := xs.length) rfl rfl)) (rng_n _ hl)) rfl (by simp [rngItems]; omega) fun it hit => ?_)))
  obtain ⟨i, hi, rfl⟩ := List.mem_map.mp hit
  have hi := List.mem_range.mp hi
  have hm : xs[i] ∈ xs := List.getElem_mem hi
  have ez : (0 : Int) + (i : Int) = (i : Int) := Int.zero_add _
  refine ⟨_, rfl, ?_⟩
  rw [ez]
  have ex : idxSem ([] : Store) (.d (.tup xs)) (.d (.int (i : Int))) = some (.d xs[i]) := ix_in (List.getElem?_eq_getElem hi)
  exact ev_call (ws := [.d xs[i], .d xs[i]]) hF (M1 := []) (eve_cons (M1 := []) (eve_idx (M1 := []) (M2 := []) (x := .d (.tup xs)) (y := .d (.int (i : Int))) rfl rfl ex) (eve_one (eve_idx (M1 := []) (M2 := []) (x := .d (.tup xs)) (y := .d (.int (i : Int))) rfl rfl ex))) (ih _ hm)
theorem same_gd : ∀ (n : Nat) (d : D), Gd n d → ∀ k M, run prog (k + n + 2) f_law_same [.d d, .d d] M = .ok (.d (.bl true), M)
  | 0, d, h, k, M => by
    rcases h with ⟨i, rfl⟩ | ⟨s, rfl⟩
    · exact same_int i k M
    · exact same_str s k M
  | n + 1, d, h, k, M => by
    rcases h with ⟨i, rfl⟩ | ⟨s, rfl⟩ | ⟨xs, rfl, hl, hx⟩
    · exact same_int i (k + n + 1) M
    · exact same_str s (k + n + 1) M
    · have ih : ∀ x ∈ xs, ∀ M, run prog (k + n + 2) f_law_same [.d x, .d x] M = .ok (.d (.bl true), M) := fun x h M => same_gd n x (hx x h) k M
      exact run_pureW (k := k + n + 2) (fd := d_law_same) rfl rfl rfl rfl fun F hF => Wp.of_eq (same_tup hF hl ih) rfl

/-! ### comprehensions over items -/
section
variable {Γ : Ctx} {s : Env} {M : Store}
theorem comp_it {elt c : E} {tg : Tg} {it : I} {l : List PIt} (t : PIt → Bool) (g : PIt → D) (hi : evI Γ it s M = .ok (((l.map PIt.d).map W.d).map Itm.one, [], M)) (hc : c.isNo = false) (hl : l.length ≤ 100)
    (h : ∀ i ∈ l, ∃ s1, tg.put (.one (.d i.d)) (wipe s tg.slots) = some s1 ∧ evE Γ c s1 M = .ok (.d (.bl (t i)), M) ∧ (t i = true → evE Γ elt s1 M = .ok (.d (g i), M))) : evE Γ (.frz (.comp elt tg it c)) s M = .ok (.d (.lst ((l.filter t).map g)), M) := by
  have e : ((l.map PIt.d).filter (fun d => t (unIt d))).map (fun d => g (unIt d)) = (l.filter t).map g := by
    rw [List.filter_map, List.map_map]
    have e1 : ((fun d => t (unIt d)) ∘ PIt.d) = t := by funext i; show t (unIt i.d) = _; rw [unIt_d]
    have e2 : ((fun d => g (unIt d)) ∘ PIt.d) = g := by funext i; show g (unIt i.d) = _; rw [unIt_d]
    rw [e1, e2]
  rw [← e]
  refine comp_frzE (fun d => t (unIt d)) (fun d => g (unIt d)) hi hc (by rw [List.length_map]; omega) fun d hd => ?_
  obtain ⟨i, hm, rfl⟩ := List.mem_map.mp hd
  simp only [unIt_d]
  exact h i hm
theorem comp_mapE {elt : E} {tg : Tg} {it : I} {ds : List D} (g : D → D) (hi : evI Γ it s M = .ok ((ds.map W.d).map Itm.one, [], M)) (hl : ds.length ≤ 10000)
    (h : ∀ d ∈ ds, ∃ s1, tg.put (.one (.d d)) (wipe s tg.slots) = some s1 ∧ evE Γ elt s1 M = .ok (.d (g d), M)) : evE Γ (.frz (.comp elt tg it .no)) s M = .ok (.d (.lst (ds.map g)), M) := by
  have hw : Wp (evE Γ (.frz (.comp elt tg it .no)) s M) fun r => r = (.d (.lst (ds.map g)), M) := by
    refine wpe_frz (wpl_comp hi ?_)
    refine comp_fltN (fun _ => true) g ds [] (by simpa using hl) (fun d hd => ?_) ⟨_, toDs_map _, by rw [show ds.filter (fun _ => true) = ds from List.filter_eq_self.mpr fun _ _ => rfl]; rfl⟩
    obtain ⟨s1, h1, h3⟩ := h d hd
    exact ⟨s1, h1, rfl, fun _ => h3⟩
  obtain ⟨r, e, rfl⟩ := hw.get
  exact e
theorem comp_itN {elt : E} {tg : Tg} {it : I} {l : List PIt} (g : PIt → D) (hi : evI Γ it s M = .ok (((l.map PIt.d).map W.d).map Itm.one, [], M)) (hl : l.length ≤ 100)
    (h : ∀ i ∈ l, ∃ s1, tg.put (.one (.d i.d)) (wipe s tg.slots) = some s1 ∧ evE Γ elt s1 M = .ok (.d (g i), M)) : evE Γ (.frz (.comp elt tg it .no)) s M = .ok (.d (.lst (l.map g)), M) := by
  have e : (l.map PIt.d).map (fun d => g (unIt d)) = l.map g := by
    rw [List.map_map]
    have e2 : ((fun d => g (unIt d)) ∘ PIt.d) = g := by funext i; show g (unIt i.d) = _; rw [unIt_d]
    rw [e2]
  rw [← e]
  refine comp_mapE (fun d => g (unIt d)) hi (by rw [List.length_map]; omega) fun d hd => ?_
  obtain ⟨i, hm, rfl⟩ := List.mem_map.mp hd
  simp only [unIt_d]
  exact h i hm
theorem tup_of {e : E} {ds : List D} (h : evE Γ e s M = .ok (.d (.lst ds), M)) : evE Γ (.bi .tuple (.cons e .nil)) s M = .ok (.d (.tup ds), M) := by
  refine eve_bi (eve_one h) ?_
  simp only [biSem, seqOf, Option.bind_some, toDs_map, Option.map_some]
theorem ei_of {e : E} {ds : List D} (h : evE Γ e s M = .ok (.d (.lst ds), M)) : evI Γ (.of e) s M = .ok ((ds.map W.d).map Itm.one, [], M) := by
  simp only [evI, h, TN.R.bind_ok]; rfl
theorem ei_ofT {e : E} {ds : List D} (h : evE Γ e s M = .ok (.d (.tup ds), M)) : evI Γ (.of e) s M = .ok ((ds.map W.d).map Itm.one, [], M) := by
  simp only [evI, h, TN.R.bind_ok]; rfl
end
/-! ### what the program tells -/
section
variable {k : Nat} {ps : List PP} {T : Tb} {p : PP}
abbrev mvI (P : Tx → Bool) (p : PP) : List PIt := p.h.items.filter fun i => P (lkey i)
abbrev inR (p : PP) : List D := p.h.items.map fun i => D.str (64 :: lkey i)
abbrev stR (P : Tx → Bool) (p : PP) : List D := (mvI P p ++ p.h.places).map fun i => D.str (lkey i)
abbrev ouR (P : Tx → Bool) (p : PP) : List D := (cond p.h.res [D.str [114, 101, 115, 117, 108, 116]] []) ++ ((mvI P p).filter fun i => i.arr).map fun i => D.str (lkey i)
abbrev moR (P : Tx → Bool) (p : PP) : List D := (mvI P p).map fun i => D.str i.nm
abbrev toR (P : Tx → Bool) (p : PP) : List D := (p.h.items.filter fun i => i.arr && P i.nm).map fun i => D.str i.nm
abbrev inT (T : Tb) (p : PP) : Tx → Bool := fun x => decide (x ∈ T p.h.nm)
theorem in_ev {Γ : Ctx} {a b : E} {s : Env} {M : Store} {w0 : W} {x : Tx} (C : CoreOk ps) (hp : p ∈ ps) (ha : evE Γ a s M = .ok (.d (.str x), M)) (hb : evE Γ b s M = .ok (.d (.lst (sl (T p.h.nm))), M)) : evE Γ (.cmp .isIn a b) s M = .ok (.d (.bl (inT T p x)), M) := eve_cmp ha hb (inD_sl _ _)
theorem tab_ix (C : CoreOk ps) (hp : p ∈ ps) (M : Store) : idxSem M (.d (tabD ps T)) (.d (.str p.h.nm)) = some (.d (.lst (sl (T p.h.nm)))) := by
  show (dget (.s p.h.nm) (tky ps) _).map W.d = _
  rcases core_cases C with ⟨a, rfl⟩ | ⟨a, b, rfl, hne⟩
  · rw [List.mem_singleton.mp hp]
    simp [dget]
  · rcases List.mem_cons.mp hp with rfl | hp
    · simp [dget]
    · obtain rfl := List.mem_singleton.mp hp
      simp [dget, hne]
theorem il (C : CoreOk ps) (hp : p ∈ ps) {i : PIt} (hi : i ∈ p.h.items ++ p.h.places) : i.nm.length < 100 := (C.ho p hp).ln i hi
theorem kl {i : PIt} (h : i.nm.length < 100) : (lkey i).length ≤ 100 := by
  obtain ⟨ar, x⟩ := i
  cases ar
  · exact Nat.le_of_lt h
  · show (35 :: x).length ≤ 100
    simp only [List.length_cons]
    exact h
theorem at_ev {x : Tx} (h : x.length ≤ 100) : binSem .add (.d (.str [64])) (.d (.str x)) = some (.d (.str (64 :: x))) := by
  simp only [binSem]
  rw [if_pos (by simp only [List.length_cons, List.length_nil]; unfold line; omega)]
  rfl
theorem n4 (C : CoreOk ps) (hp : p ∈ ps) : p.h.items.length ≤ 3 := by
  have := (C.ho p hp).ni
  omega
theorem mi_ok (C : CoreOk ps) (hp : p ∈ ps) (M : Store) : run prog (k + 2) fmoving_items [.d p.d, .d (tabD ps T)] M = .ok (.d (.lst ((mvI (inT T p) p).map PIt.d)), M) := by
  have hn := n4 C hp
  refine run_pureW (fd := dmoving_items) rfl rfl rfl rfl fun F hF => ?_
  refine wps_ret (wpe_ok (comp_it (l := p.h.items) (fun i => inT T p (lkey i)) PIt.d (ei_ofT rfl) rfl (by omega) fun i hi => ⟨[some (.d p.d), some (.d (tabD ps T)), some (.d i.d)], rfl, ?_, fun _ => rfl⟩) rfl)
  exact in_ev (w0 := .d .non) C hp (ev_call hF (M1 := []) rfl (var_ok (il C hp (List.mem_append_left _ hi)))) (eve_idx (M1 := []) (M2 := []) (y := .d (.str p.h.nm)) rfl rfl (tab_ix C hp []))
theorem inp_ok (C : CoreOk ps) (hp : p ∈ ps) (M : Store) : run prog (k + 3) finputs_of [.d (coreD ps), .d (.str p.h.nm)] M = .ok (.d (.tup (inR p)), M) := by
  have hn := n4 C hp
  have h1 : ∀ M, run prog (k + 2) finputs_of_proc [.d p.d] M = .ok (.d (.tup (inR p)), M) := fun M => by
    refine run_pureW (fd := dinputs_of_proc) rfl rfl rfl rfl fun F hF => ?_
    refine wps_ret (wpe_ok (tup_of (comp_itN (l := p.h.items) (fun i => D.str (64 :: lkey i)) (ei_ofT rfl) (by omega) fun i hi => ⟨[some (.d p.d), some (.d i.d)], rfl, ?_⟩)) rfl)
    have hl := il C hp (List.mem_append_left _ hi)
    exact eve_bin (M1 := []) rfl (ev_call hF (M1 := []) rfl (var_ok hl)) (at_ev (kl hl))
  refine run_pureW (fd := dinputs_of) rfl rfl rfl rfl fun F hF => ?_
  exact wps_ret (wpe_ok (ev_call hF (M1 := []) (eve_one (ev_call hF (M1 := []) rfl (pn_ok (k := k + 1) C hp))) h1) rfl)
theorem sta_ok (C : CoreOk ps) (hp : p ∈ ps) (hT : ∀ M, run prog (k + 5) fmoving_table [.d (coreD ps)] M = .ok (.d (tabD ps T), M)) (M : Store) : run prog (k + 6) fstates_of [.d (coreD ps), .d (.str p.h.nm)] M = .ok (.d (.tup (stR (inT T p) p)), M) := by
  have hn := n4 C hp
  have hn2 := (C.ho p hp).np
  have hf : (mvI (inT T p) p).length ≤ p.h.items.length := List.length_filter_le _ _
  have h1 : ∀ M, run prog (k + 5) fstates_of_proc [.d p.d, .d (tabD ps T)] M = .ok (.d (.tup (stR (inT T p) p)), M) := fun M => by
    refine run_pureW (fd := dstates_of_proc) rfl rfl rfl rfl fun F hF => ?_
    have ec : evE (Gm F) (.frz (.cat (.call fmoving_items (.cons (.loc 0) (.cons (.loc 1) .nil))) (.frz (.bi .list (.cons (.idx (.loc 0) (.lit (.int 3))) .nil))))) [some (.d p.d), some (.d (tabD ps T)), none] [] = .ok (.d (.lst ((mvI (inT T p) p ++ p.h.places).map PIt.d)), []) := by
      rw [List.map_append]
      refine frz_of (cat_dd (ev_call hF (M1 := []) rfl (mi_ok (k := k + 2) C hp)) (frz_of ?_) (by simp only [List.length_map]; omega))
      have e0 : evEs (Gm F) (.cons (.idx (.loc 0) (.lit (.int 3))) .nil) [some (.d p.d), some (.d (tabD ps T)), none] [] = .ok ([.d (.tup (p.h.places.map PIt.d))], []) := rfl
      simp only [evL, e0, TN.R.bind_ok]
      rfl
    refine wps_ret (wpe_ok (tup_of (comp_itN (l := mvI (inT T p) p ++ p.h.places) (fun i => D.str (lkey i)) (ei_of ec) (by rw [List.length_append]; omega) fun i hi => ⟨[some (.d p.d), some (.d (tabD ps T)), some (.d i.d)], rfl, ?_⟩)) rfl)
    refine ev_call hF (M1 := []) rfl (var_ok (k := k + 3) (il C hp ?_))
    rcases List.mem_append.mp hi with hi | hi
    · exact List.mem_append_left _ (List.mem_filter.mp hi).1
    · exact List.mem_append_right _ hi
  refine run_pureW (fd := dstates_of) rfl rfl rfl rfl fun F hF => ?_
  exact wps_ret (wpe_ok (ev_call hF (M1 := []) (eve_cons (ev_call hF (M1 := []) rfl (pn_ok (k := k + 4) C hp)) (eve_one (ev_call hF (M1 := []) rfl hT))) h1) rfl)
theorem out_ok (C : CoreOk ps) (hp : p ∈ ps) (hT : ∀ M, run prog (k + 5) fmoving_table [.d (coreD ps)] M = .ok (.d (tabD ps T), M)) (M : Store) : run prog (k + 6) foutcomes_of [.d (coreD ps), .d (.str p.h.nm)] M = .ok (.d (.tup (ouR (inT T p) p)), M) := by
  have hn := n4 C hp
  have hf : (mvI (inT T p) p).length ≤ p.h.items.length := List.length_filter_le _ _
  have hf2 : ((mvI (inT T p) p).filter fun i => i.arr).length ≤ (mvI (inT T p) p).length := List.length_filter_le _ _
  have h1 : ∀ M, run prog (k + 5) foutcomes_of_proc [.d p.d, .d (tabD ps T)] M = .ok (.d (.tup (ouR (inT T p) p)), M) := fun M => by
    refine run_pureW (fd := doutcomes_of_proc) rfl rfl rfl rfl fun F hF => ?_
    have ec := ev_call (g := fmoving_items) (es := .cons (.loc 0) (.cons (.loc 1) .nil)) (s := [some (.d p.d), some (.d (tabD ps T)), none, none]) (M := []) hF (M1 := []) rfl (mi_ok (k := k + 2) (T := T) C hp)
    have ed := comp_it (l := mvI (inT T p) p) (elt := .call fvariable_of (.cons (.loc 3) .nil)) (c := .cmp .eq (.idx (.loc 3) (.lit (.int 0))) (.lit (.str [97, 114, 114, 97, 121]))) (tg := .nm 3) (fun i => i.arr) (fun i => D.str (lkey i)) (ei_of ec) rfl (by omega) (fun i hi => ⟨[some (.d p.d), some (.d (tabD ps T)), none, some (.d i.d)], rfl, by obtain ⟨ar, x⟩ := i; cases ar <;> rfl, fun _ => ev_call hF (M1 := []) rfl (var_ok (k := k + 3) (il C hp (List.mem_append_left _ (List.mem_filter.mp hi).1)))⟩)
    refine wps_asg (wpe_ok ed ⟨_, rfl, ?_⟩)
    refine wps_ret (wpe_ok (eve_bin (M1 := []) (x := .d (resD p.h.res)) rfl (tup_of (evE_loc rfl)) ?_) rfl)
    simp only [binSem]
    have hc : (cond p.h.res [D.str [114, 101, 115, 117, 108, 116]] []).length ≤ 1 := by cases p.h.res <;> simp
    rw [if_pos (by rw [List.length_map]; unfold line; omega)]
  refine run_pureW (fd := doutcomes_of) rfl rfl rfl rfl fun F hF => ?_
  exact wps_ret (wpe_ok (ev_call hF (M1 := []) (eve_cons (ev_call hF (M1 := []) rfl (pn_ok (k := k + 4) C hp)) (eve_one (ev_call hF (M1 := []) rfl hT))) h1) rfl)
theorem mof_ok (C : CoreOk ps) (hp : p ∈ ps) (hT : ∀ M, run prog (k + 5) fmoving_table [.d (coreD ps)] M = .ok (.d (tabD ps T), M)) (M : Store) : run prog (k + 6) fmoving_of [.d (coreD ps), .d (.str p.h.nm)] M = .ok (.d (.tup (moR (inT T p) p)), M) := by
  have hn := n4 C hp
  have hf : (mvI (inT T p) p).length ≤ p.h.items.length := List.length_filter_le _ _
  refine run_pureW (fd := dmoving_of) rfl rfl rfl rfl fun F hF => ?_
  have ec := ev_call (g := fmoving_items) (es := .cons (.call fproc_named (.cons (.loc 0) (.cons (.loc 1) .nil))) (.cons (.call fmoving_table (.cons (.loc 0) .nil)) .nil)) (s := [some (.d (coreD ps)), some (.d (.str p.h.nm)), none]) (M := []) hF (M1 := []) (eve_cons (ev_call hF (M1 := []) rfl (pn_ok (k := k + 4) C hp)) (eve_one (ev_call hF (M1 := []) rfl hT))) (mi_ok (k := k + 3) (T := T) C hp)
  exact wps_ret (wpe_ok (tup_of (comp_itN (l := mvI (inT T p) p) (fun i => D.str i.nm) (ei_of ec) (by omega) fun i hi => ⟨[some (.d (coreD ps)), some (.d (.str p.h.nm)), some (.d i.d)], rfl, rfl⟩)) rfl)
theorem and_it {Γ : Ctx} {a b : E} {s : Env} {M : Store} {x y : Bool} (h1 : evE Γ a s M = .ok (.d (.bl x), M)) (h2 : evE Γ b s M = .ok (.d (.bl y), M)) : evE Γ (.and (.cons a (.cons b .nil))) s M = .ok (.d (.bl (x && y)), M) := by
  simp only [evE, evAnd, h1, TN.R.bind_ok, tru, TN.R.of_some]
  cases x
  · rfl
  · simp only [if_true, h2]; rfl
theorem tof_ok (C : CoreOk ps) (hp : p ∈ ps) (hT : ∀ M, run prog (k + 5) ftouched_table [.d (coreD ps)] M = .ok (.d (tabD ps T), M)) (M : Store) : run prog (k + 6) ftouched_of [.d (coreD ps), .d (.str p.h.nm)] M = .ok (.d (.tup (toR (inT T p) p)), M) := by
  have hn := n4 C hp
  refine run_pureW (fd := dtouched_of) rfl rfl rfl rfl fun F hF => ?_
  refine wps_asg (wpe_ok (ev_call hF (M1 := []) rfl hT) ⟨_, rfl, ?_⟩)
  refine wps_asg (wpe_ok (eve_idx (M1 := []) (M2 := []) (x := .d p.d) (y := .d (.int 1)) (ev_call hF (M1 := []) rfl (pn_ok (k := k + 4) C hp)) rfl rfl) ⟨_, rfl, ?_⟩)
  refine wps_ret (wpe_ok (tup_of (comp_it (l := p.h.items) (fun i => i.arr && inT T p i.nm) (fun i => D.str i.nm) (ei_ofT rfl) rfl (by omega) fun i hi => ⟨[some (.d (coreD ps)), some (.d (.str p.h.nm)), some (.d (tabD ps T)), some (.d (.tup (p.h.items.map PIt.d))), some (.d i.d)], rfl, ?_, fun _ => rfl⟩)) rfl)
  refine and_it (by obtain ⟨ar, x⟩ := i; cases ar <;> rfl) (in_ev (w0 := .d .non) C hp rfl (eve_idx (M1 := []) (M2 := []) (y := .d (.str p.h.nm)) rfl rfl (tab_ix C hp [])))
/-! ### what the law tells -/
theorem lst_ok2 (C : CoreOk ps) (hp : p ∈ ps) (M : Store) : run prog (k + 2) f_law_states [.d p.d, .d (.lst (sl (T p.h.nm)))] M = .ok (.d (.lst (stR (inT T p) p)), M) := by
  have hn := n4 C hp
  have hn2 := (C.ho p hp).np
  have hf : (mvI (inT T p) p).length ≤ p.h.items.length := List.length_filter_le _ _
  refine run_pureW (fd := d_law_states) rfl rfl rfl rfl fun F hF => ?_
  have hk : ∀ i ∈ p.h.items ++ p.h.places, evE (Gm F) (.call f_law_key (.cons (.loc 2) .nil)) [some (.d p.d), some (.d (.lst (sl (T p.h.nm)))), some (.d i.d)] [] = .ok (.d (.str (lkey i)), []) := fun i hi => ev_call hF (M1 := []) rfl (key_ok (il C hp hi))
  have e1 : evE (Gm F) (.frz (.comp (.call f_law_key (.cons (.loc 2) .nil)) (.nm 2) (.of (.idx (.loc 0) (.lit (.int 1)))) (.cmp .isIn (.call f_law_key (.cons (.loc 2) .nil)) (.loc 1)))) [some (.d p.d), some (.d (.lst (sl (T p.h.nm)))), none] [] = .ok (.d (.lst ((mvI (inT T p) p).map fun i => D.str (lkey i))), []) :=
    comp_it (l := p.h.items) (fun i => inT T p (lkey i)) (fun i => D.str (lkey i)) (ei_ofT rfl) rfl (by omega) fun i hi => ⟨_, rfl, in_ev (w0 := .d .non) C hp (hk i (List.mem_append_left _ hi)) rfl, fun _ => hk i (List.mem_append_left _ hi)⟩
  have e2 : evE (Gm F) (.frz (.comp (.call f_law_key (.cons (.loc 2) .nil)) (.nm 2) (.of (.idx (.loc 0) (.lit (.int 3)))) .no)) [some (.d p.d), some (.d (.lst (sl (T p.h.nm)))), none] [] = .ok (.d (.lst (p.h.places.map fun i => D.str (lkey i))), []) :=
    comp_itN (l := p.h.places) (fun i => D.str (lkey i)) (ei_ofT rfl) (by omega) fun i hi => ⟨_, rfl, hk i (List.mem_append_right _ hi)⟩
  refine wps_ret (wpe_ok (frz_of (cat_dd e1 e2 (by simp only [List.length_map]; omega))) ?_)
  show TN.Flow.ret (W.d (.lst (_ ++ _))) = TN.Flow.ret (W.d (.lst (List.map _ (_ ++ _))))
  rw [List.map_append]
theorem lout_ok (C : CoreOk ps) (hp : p ∈ ps) (M : Store) : run prog (k + 1) f_law_outcomes [.d p.d, .d (.lst (sl (T p.h.nm)))] M = .ok (.d (.lst (ouR (inT T p) p)), M) := by
  have hn := n4 C hp
  refine run_pureW (fd := d_law_outcomes) rfl rfl rfl rfl fun F hF => ?_
  have e1 : evE (Gm F) (.frz (.bi .list (.cons (.idx (.loc 0) (.lit (.int 2))) .nil))) [some (.d p.d), some (.d (.lst (sl (T p.h.nm)))), none, none] [] = .ok (.d (.lst (cond p.h.res [D.str [114, 101, 115, 117, 108, 116]] [])), []) := by
    refine frz_of ?_
    have e0 : evEs (Gm F) (.cons (.idx (.loc 0) (.lit (.int 2))) .nil) [some (.d p.d), some (.d (.lst (sl (T p.h.nm)))), none, none] [] = .ok ([.d (resD p.h.res)], []) := rfl
    simp only [evL, e0, TN.R.bind_ok]
    rfl
  have e2 := comp_it (Γ := Gm F) (s := [some (.d p.d), some (.d (.lst (sl (T p.h.nm)))), none, none]) (M := []) (elt := .bin .add (.lit (.str [35])) (.loc 3)) (c := .and (.cons (.cmp .eq (.loc 2) (.lit (.str [97, 114, 114, 97, 121]))) (.cons (.cmp .isIn (.bin .add (.lit (.str [35])) (.loc 3)) (.loc 1)) .nil))) (tg := .tu [2, 3]) (it := .of (.idx (.loc 0) (.lit (.int 1)))) (l := p.h.items) (fun i => i.arr && inT T p (35 :: i.nm)) (fun i => D.str (35 :: i.nm)) (ei_ofT rfl) rfl (by omega) (fun i hi => by
    have hl := il C hp (List.mem_append_left p.h.places hi)
    have eh : evE (Gm F) (.bin .add (.lit (.str [35])) (.loc 3)) [some (.d p.d), some (.d (.lst (sl (T p.h.nm)))), some (.d (.str (kdT i.arr))), some (.d (.str i.nm))] [] = .ok (.d (.str (35 :: i.nm)), []) := eve_bin (M1 := []) rfl rfl (hash hl)
    exact ⟨[some (.d p.d), some (.d (.lst (sl (T p.h.nm)))), some (.d (.str (kdT i.arr))), some (.d (.str i.nm))], rfl, and_it (by cases i.arr <;> rfl) (in_ev (w0 := .d .non) C hp eh rfl), fun _ => eh⟩)
  have e3 : (p.h.items.filter fun i => i.arr && inT T p (35 :: i.nm)).map (fun i => D.str (35 :: i.nm)) = ((mvI (inT T p) p).filter fun i => i.arr).map fun i => D.str (lkey i) := by
    rw [List.filter_filter]
    have : ∀ l : List PIt, (l.filter fun i => i.arr && inT T p (35 :: i.nm)).map (fun i => D.str (35 :: i.nm)) = (l.filter fun i => i.arr && inT T p (lkey i)).map fun i => D.str (lkey i) := fun l => by
      induction l with
      | nil => rfl
      | cons i l ih =>
        obtain ⟨ar, x⟩ := i
        cases ar with
        | false => exact ih
        | true =>
          rw [List.filter_cons, List.filter_cons]
          show (if inT T p (35 :: x) = true then _ else _ : List PIt).map _ = (if inT T p (35 :: x) = true then _ else _ : List PIt).map _
          split
          · rw [List.map_cons, List.map_cons, ih]; rfl
          · exact ih
    exact this _
  rw [e3] at e2
  have hf : (mvI (inT T p) p).length ≤ p.h.items.length := List.length_filter_le _ _
  have hf2 : ((mvI (inT T p) p).filter fun i => i.arr).length ≤ (mvI (inT T p) p).length := List.length_filter_le _ _
  refine wps_ret (wpe_ok (frz_of (cat_dd e1 e2 ?_)) rfl)
  have hc : (cond p.h.res [D.str [114, 101, 115, 117, 108, 116]] []).length ≤ 1 := by cases p.h.res <;> simp
  rw [List.length_map]
  omega
end
end TN


namespace TN
section
variable {F : Nat → List W → Store → TN.R (W × Store)} {k : Nat} {ps : List PP} {p : PP}
theorem gd_sl {l : List D} (hl : l.length ≤ 1000) (h : ∀ x ∈ l, ∃ s, x = .str s) : Gd 1 (.tup l) := .inr (.inr ⟨l, rfl, hl, fun x hx => .inr (h x hx)⟩)
theorem chk (hF : F = run prog (k + 20)) {A B : E} {s : Env} {M : Store} {l : List D} (hl : l.length ≤ 1000) (h : ∀ x ∈ l, ∃ s, x = .str s) (hA : evE (Gm F) A s M = .ok (.d (.tup l), M)) (hB : evE (Gm F) B s M = .ok (.d (.tup l), M)) : evE (Gm F) (.inv (.call f_law_same (.cons A (.cons B .nil)))) s M = .ok (.d (.bl false), M) := by
  have e : evE (Gm F) (.call f_law_same (.cons A (.cons B .nil))) s M = .ok (.d (.bl true), M) := ev_call hF (M1 := M) (eve_cons hA (eve_one hB)) (same_gd 1 _ (gd_sl hl h) (k + 17))
  simp only [evE] at e ⊢
  rw [e]
  rfl
theorem map_str {α : Type} {l : List α} {f : α → Tx} : ∀ x ∈ l.map (fun i => D.str (f i)), ∃ s, x = .str s := fun x hx => by
  obtain ⟨i, _, rfl⟩ := List.mem_map.mp hx
  exact ⟨_, rfl⟩
abbrev lwE (ns : List Int) (tn : W) (ps : List PP) (S1 S2 : Tb) (p : PP) (X Y : Option W) : Env := [some (.d (.scr (ns.map D.int))), some (.r 0), some tn, some (.d (coreD ps)), some (.d (tabD ps S1)), some (.d (tabD ps S2)), X, Y, none, none, none]
theorem law_p (hF : F = run prog (k + 20)) (C : CoreOk ps) (hp : p ∈ ps) {ns : List Int} {tn : W} {M : Store} {T1 T2 S1 S2 : Tb} (h1 : ∀ nm x, x ∈ T1 nm ↔ x ∈ S1 nm) (h2 : ∀ nm x, x ∈ T2 nm ↔ x ∈ S2 nm)
    (r1 : ∀ M, run prog (k + 14 + 5) fmoving_table [.d (coreD ps)] M = .ok (.d (tabD ps T1), M)) (r2 : ∀ M, run prog (k + 14 + 5) ftouched_table [.d (coreD ps)] M = .ok (.d (tabD ps T2), M)) :
    ∃ Y, evSs (Gm F) fblaw_1 (lwE ns tn ps S1 S2 p (some (.d p.d)) none) M = .ok (.nx, lwE ns tn ps S1 S2 p (some (.d p.d)) Y, M) := by
  have q1 : inT T1 p = inT S1 p := by funext x; exact decide_eq_decide.mpr (h1 p.h.nm x)
  have q2 : inT T2 p = inT S2 p := by funext x; exact decide_eq_decide.mpr (h2 p.h.nm x)
  have hn := n4 C hp
  have hn2 := (C.ho p hp).np
  have hf : (mvI (inT S1 p) p).length ≤ p.h.items.length := List.length_filter_le _ _
  have hf2 : ((mvI (inT S1 p) p).filter fun i => i.arr).length ≤ (mvI (inT S1 p) p).length := List.length_filter_le _ _
  have hf3 : (p.h.items.filter fun i => i.arr && inT S2 p i.nm).length ≤ p.h.items.length := List.length_filter_le _ _
  have args : ∀ (X Y : Option W), X = some (.d p.d) → evEs (Gm F) (.cons (.loc 3) (.cons (.idx (.loc 6) (.lit (.int 0))) .nil)) (lwE ns tn ps S1 S2 p X Y) M = .ok ([.d (coreD ps), .d (.str p.h.nm)], M) := fun X Y e => by subst e; rfl
  have tab1 : ∀ Y, evE (Gm F) (.idx (.loc 4) (.idx (.loc 6) (.lit (.int 0)))) (lwE ns tn ps S1 S2 p (some (.d p.d)) Y) M = .ok (.d (.lst (sl (S1 p.h.nm))), M) := fun Y => eve_idx (M1 := M) (M2 := M) (y := .d (.str p.h.nm)) (evE_loc rfl) rfl (tab_ix C hp M)
  have key8 : ∀ i ∈ p.h.items, ∀ Y, evE (Gm F) (.call f_law_key (.cons (.loc 8) .nil)) [some (.d (.scr (ns.map D.int))), some (.r 0), some tn, some (.d (coreD ps)), some (.d (tabD ps S1)), some (.d (tabD ps S2)), some (.d p.d), Y, some (.d i.d), none, none] M = .ok (.d (.str (lkey i)), M) := fun i hi Y => ev_call hF (M1 := M) rfl (key_ok (k := k + 19) (il C hp (List.mem_append_left _ hi)))
  -- inputs
  have c1 : evE (Gm F) (.inv (.call f_law_same (.cons (.call finputs_of (.cons (.loc 3) (.cons (.idx (.loc 6) (.lit (.int 0))) .nil))) (.cons (.bi .tuple (.cons (.frz (.comp (.bin .add (.lit (.str [64])) (.call f_law_key (.cons (.loc 8) .nil))) (.nm 8) (.of (.idx (.loc 6) (.lit (.int 1)))) .no)) .nil)) .nil)))) (lwE ns tn ps S1 S2 p (some (.d p.d)) none) M = .ok (.d (.bl false), M) := by
    refine chk hF (l := inR p) (by rw [List.length_map]; omega) map_str (ev_call hF (args _ _ rfl) (inp_ok (k := k + 17) C hp)) (tup_of (comp_itN (l := p.h.items) (fun i => D.str (64 :: lkey i)) (ei_ofT rfl) (by omega) fun i hi => ⟨_, rfl, ?_⟩))
    exact eve_bin (M1 := M) rfl (key8 i hi none) (at_ev (kl (il C hp (List.mem_append_left _ hi))))
  -- states
  have c2 : evE (Gm F) (.inv (.call f_law_same (.cons (.call fstates_of (.cons (.loc 3) (.cons (.idx (.loc 6) (.lit (.int 0))) .nil))) (.cons (.bi .tuple (.cons (.call f_law_states (.cons (.loc 6) (.cons (.idx (.loc 4) (.idx (.loc 6) (.lit (.int 0)))) .nil))) .nil)) .nil)))) (lwE ns tn ps S1 S2 p (some (.d p.d)) none) M = .ok (.d (.bl false), M) := by
    have ha := sta_ok (k := k + 14) C hp r1
    rw [q1] at ha
    exact chk hF (l := stR (inT S1 p) p) (by rw [List.length_map, List.length_append]; omega) map_str (ev_call hF (args _ _ rfl) ha) (tup_of (ev_call hF (M1 := M) (eve_cons (M1 := M) rfl (eve_one (tab1 none))) (lst_ok2 (k := k + 18) C hp)))
  -- outcomes
  have c3 : evE (Gm F) (.inv (.call f_law_same (.cons (.call foutcomes_of (.cons (.loc 3) (.cons (.idx (.loc 6) (.lit (.int 0))) .nil))) (.cons (.bi .tuple (.cons (.call f_law_outcomes (.cons (.loc 6) (.cons (.idx (.loc 4) (.idx (.loc 6) (.lit (.int 0)))) .nil))) .nil)) .nil)))) (lwE ns tn ps S1 S2 p (some (.d p.d)) none) M = .ok (.d (.bl false), M) := by
    have ha := out_ok (k := k + 14) C hp r1
    rw [q1] at ha
    have hc : (cond p.h.res [D.str [114, 101, 115, 117, 108, 116]] []).length ≤ 1 := by cases p.h.res <;> simp
    refine chk hF (l := ouR (inT S1 p) p) (by rw [List.length_append, List.length_map]; omega) (fun x hx => ?_) (ev_call hF (args _ _ rfl) ha) (tup_of (ev_call hF (M1 := M) (eve_cons (M1 := M) rfl (eve_one (tab1 none))) (lout_ok (k := k + 19) C hp)))
    rcases List.mem_append.mp hx with hx | hx
    · revert hx
      cases p.h.res with
      | false => intro hx; cases hx
      | true => intro hx; exact ⟨_, List.mem_singleton.mp hx⟩
    · exact map_str x hx
  -- moving
  have d4 : evE (Gm F) (.bi .tuple (.cons (.frz (.comp (.idx (.loc 8) (.lit (.int 1))) (.nm 8) (.of (.idx (.loc 6) (.lit (.int 1)))) (.cmp .isIn (.call f_law_key (.cons (.loc 8) .nil)) (.idx (.loc 4) (.idx (.loc 6) (.lit (.int 0))))))) .nil)) (lwE ns tn ps S1 S2 p (some (.d p.d)) none) M = .ok (.d (.tup (moR (inT S1 p) p)), M) :=
    tup_of (comp_it (l := p.h.items) (fun i => inT S1 p (lkey i)) (fun i => D.str i.nm) (ei_ofT rfl) rfl (by omega) fun i hi => ⟨_, rfl, in_ev (w0 := .d .non) C hp (key8 i hi none) (eve_idx (M1 := M) (M2 := M) (y := .d (.str p.h.nm)) (evE_loc rfl) rfl (tab_ix C hp M)), fun _ => rfl⟩)
  have c4 : evE (Gm F) (.inv (.call f_law_same (.cons (.call fmoving_of (.cons (.loc 3) (.cons (.idx (.loc 6) (.lit (.int 0))) .nil))) (.cons (.loc 7) .nil)))) (lwE ns tn ps S1 S2 p (some (.d p.d)) (some (.d (.tup (moR (inT S1 p) p))))) M = .ok (.d (.bl false), M) := by
    have ha := mof_ok (k := k + 14) C hp r1
    rw [q1] at ha
    exact chk hF (l := moR (inT S1 p) p) (by rw [List.length_map]; omega) map_str (ev_call hF (args _ _ rfl) ha) (evE_loc rfl)
  -- touched
  have d5 : evE (Gm F) (.bi .tuple (.cons (.frz (.comp (.loc 10) (.tu [9, 10]) (.of (.idx (.loc 6) (.lit (.int 1)))) (.and (.cons (.cmp .eq (.loc 9) (.lit (.str [97, 114, 114, 97, 121]))) (.cons (.cmp .isIn (.loc 10) (.idx (.loc 5) (.idx (.loc 6) (.lit (.int 0))))) .nil))))) .nil)) (lwE ns tn ps S1 S2 p (some (.d p.d)) (some (.d (.tup (moR (inT S1 p) p))))) M = .ok (.d (.tup (toR (inT S2 p) p)), M) :=
    tup_of (comp_it (l := p.h.items) (fun i => i.arr && inT S2 p i.nm) (fun i => D.str i.nm) (ei_ofT rfl) rfl (by omega) fun i hi => ⟨_, rfl, and_it (by obtain ⟨ar, x⟩ := i; cases ar <;> rfl) (in_ev (w0 := .d .non) C hp rfl (eve_idx (M1 := M) (M2 := M) (y := .d (.str p.h.nm)) (evE_loc rfl) rfl (tab_ix C hp M))), fun _ => rfl⟩)
  have c5 : evE (Gm F) (.inv (.call f_law_same (.cons (.call ftouched_of (.cons (.loc 3) (.cons (.idx (.loc 6) (.lit (.int 0))) .nil))) (.cons (.loc 7) .nil)))) (lwE ns tn ps S1 S2 p (some (.d p.d)) (some (.d (.tup (toR (inT S2 p) p))))) M = .ok (.d (.bl false), M) := by
    have ha := tof_ok (k := k + 14) C hp r2
    rw [q2] at ha
    exact chk hF (l := toR (inT S2 p) p) (by rw [List.length_map]; omega) map_str (ev_call hF (args _ _ rfl) ha) (evE_loc rfl)
  refine ⟨some (.d (.tup (toR (inT S2 p) p))), ?_⟩
  exact evs_ifN c1 rfl (evs_ifN c2 rfl (evs_ifN c3 rfl ((evs_asg d4 rfl).trans (evs_ifN c4 rfl ((evs_asg d5 rfl).trans (evs_ifN c5 rfl rfl))))))
theorem lw_go (hF : F = run prog (k + 20)) (C : CoreOk ps) {ns : List Int} {tn : W} {M : Store} {T1 T2 S1 S2 : Tb} (h1 : ∀ nm x, x ∈ T1 nm ↔ x ∈ S1 nm) (h2 : ∀ nm x, x ∈ T2 nm ↔ x ∈ S2 nm)
    (r1 : ∀ M, run prog (k + 14 + 5) fmoving_table [.d (coreD ps)] M = .ok (.d (tabD ps T1), M)) (r2 : ∀ M, run prog (k + 14 + 5) ftouched_table [.d (coreD ps)] M = .ok (.d (tabD ps T2), M)) {p0 : PP} {Q : TN.Flow × Env × Store → Prop} (hq : Q (.nx, lwE ns tn ps S1 S2 p0 none none, M)) :
    ∀ l : List PP, (∀ p ∈ l, p ∈ ps) → Wp (forLoop (Tg.nm 6).put (fun s M => evSs (Gm F) fblaw_1 s M) [] (lwE ns tn ps S1 S2 p0 none none) (((l.map PP.d).map W.d).map Itm.one) (lwE ns tn ps S1 S2 p0 none none) M) Q
  | [], _ => wpf_nil hq
  | p :: l, hl => by
    obtain ⟨Y, e⟩ := law_p hF C (hl p (List.mem_cons_self ..)) (ns := ns) (tn := tn) (M := M) h1 h2 r1 r2
    refine wpf_cons (s1 := lwE ns tn ps S1 S2 p (some (.d p.d)) none) rfl (Wp.of_eq e ⟨rfl, ?_⟩)
    exact lw_go hF C h1 h2 r1 r2 hq l fun q hq => hl q (List.mem_cons_of_mem _ hq)
theorem law_turn (hF : F = run prog (k + 20)) {ns : List Int} {tn : W} (cs : List Int) (a b c : Int) {Q : TN.Flow × Env × Store → Prop} (hq : ∀ X Y Z cs a b c, Q (.nx, [some (.d (.scr (ns.map D.int))), some (.r 0), some tn, X, Y, Z, none, none, none, none, none], [stc cs a b c])) :
    Wp (evSs (Gm F) fblaw_0 [some (.d (.scr (ns.map D.int))), some (.r 0), some tn, none, none, none, none, none, none, none, none] [stc cs a b c]) Q := by
  refine wps_asg (wpe_call (ws := [.r 0]) rfl (call_of hF (core_ok (k := k + 8) cs a b c fun ps cs a b c C => ⟨_, rfl, ?_⟩)))
  obtain ⟨T1, h1, r1⟩ := moves_same (k := k + 14) C
  obtain ⟨T2, h2, r2⟩ := touch_same (k := k + 14) C
  refine wps_asg (wpe_ok (ev_call hF (M1 := [stc cs a b c]) rfl (lmoves_ok (k := k + 16) C)) ⟨_, rfl, ?_⟩)
  refine wps_asg (wpe_ok (ev_call hF (M1 := [stc cs a b c]) rfl (ltouch_ok (k := k + 16) C)) ⟨_, rfl, ?_⟩)
  refine wps_for (items := ((ps.map PP.d).map W.d).map Itm.one) (gs := []) (M1 := [stc cs a b c]) rfl ?_
  refine lw_go hF C (p0 := ⟨⟨[], [], [], false⟩, []⟩) h1 h2 r1 r2 ?_ ps fun p hp => hp
  exact wps_nil (hq _ _ _ cs a b c)
end
theorem start_ok (ns : List Int) : run prog 59 f_law_start [.d (.scr (ns.map D.int))] [] = .ok (.r 0, [stc ns 0 0 0]) := by
  have e : evSs (Gm (run prog 58)) b_law_start [some (.d (.scr (ns.map D.int)))] [] = .ok (.ret (.r 0), [some (.d (.scr (ns.map D.int)))], [stc ns 0 0 0]) := by
    simp only [b_law_start, evSs, evS, evE, evL, evEs, List.getElem?_cons_zero, lbSem, seqOf, TN.R.bind_ok, TN.R.of_some, toDs_map, TN.R.from_ok]
    rfl
  show (match evSs (Gm (run prog 58)) b_law_start [some (.d (.scr (ns.map D.int)))] [] with
        | .ok (.ret w, _, M') => fin true true [] w M'
        | .ok (.nx, _, M') => fin true true [] (.d .non) M'
        | _ => .stuck) = _
  rw [e]
  rfl
theorem law_true (ns : List Int) : run prog 60 flaw [.d (.scr (ns.map D.int))] [] = .ok (.d (.bl true), []) := by
  refine run_pureW (fd := dlaw) rfl rfl rfl rfl fun F hF => ?_
  show Wp (evSs (Gm F) blaw [some (.d (.scr (ns.map D.int))), none, none, none, none, none, none, none, none, none, none] []) _
  refine wps_asg (wpe_call (ws := [.d (.scr (ns.map D.int))]) (M1 := []) rfl ?_)
  refine call_of hF (Wp.of_eq (start_ok ns) ⟨[some (.d (.scr (ns.map D.int))), some (.r 0), none, none, none, none, none, none, none, none, none], rfl, ?_⟩)
  refine wps_for (items := [.one (.d (.int 0)), .one (.d (.int 1)), .one (.d (.int 2))]) (gs := []) (M1 := [stc ns 0 0 0]) rfl ?_
  refine wpf_cons rfl (law_turn (k := 39) hF ns 0 0 0 fun X Y Z cs a b c => ⟨rfl, ?_⟩)
  refine wpf_cons rfl (law_turn (k := 39) hF cs a b c fun X Y Z cs a b c => ⟨rfl, ?_⟩)
  refine wpf_cons rfl (law_turn (k := 39) hF cs a b c fun X Y Z cs a b c => ⟨rfl, wpf_nil ?_⟩)
  exact wps_ret (wpe_lit rfl)
end TN


namespace TN
abbrev lvl : Nat := 60
open PySem PySem.Spec PyProof.Rows L2
def top (i : Nat) : Stmt := PySem.Challenge.pw_tellsnomore_k34_names_of_procedures.main.body.getD i (.Pass ⟨0, 0, 0, 0⟩)
abbrev sstatements_in : Stmt := top 1
abbrev sproc_named : Stmt := top 2
abbrev sassigned_in : Stmt := top 3
abbrev spassed_on : Stmt := top 4
abbrev smoving_table : Stmt := top 5
abbrev svariable_of : Stmt := top 6
abbrev smoving_items : Stmt := top 7
abbrev smoving_of : Stmt := top 8
abbrev sinputs_of_proc : Stmt := top 9
abbrev sstates_of_proc : Stmt := top 10
abbrev soutcomes_of_proc : Stmt := top 11
abbrev sinputs_of : Stmt := top 12
abbrev sstates_of : Stmt := top 13
abbrev soutcomes_of : Stmt := top 14
abbrev schanged_in : Stmt := top 17
abbrev spassed_to : Stmt := top 18
abbrev stouched_table : Stmt := top 19
abbrev stouched_of : Stmt := top 20
abbrev s_law_start : Stmt := top 22
abbrev s_law_draw : Stmt := top 23
abbrev s_law_one_of : Stmt := top 24
abbrev s_law_shuffled : Stmt := top 25
abbrev s_law_words : Stmt := top 26
abbrev s_law_is_int : Stmt := top 27
abbrev s_law_same : Stmt := top 28
abbrev s_law_key : Stmt := top 29
abbrev s_law_statements : Stmt := top 30
abbrev s_law_moves : Stmt := top 31
abbrev s_law_states : Stmt := top 32
abbrev s_law_outcomes : Stmt := top 33
abbrev s_law_proc : Stmt := top 34
abbrev s_law_wild_head : Stmt := top 35
abbrev s_law_wild_value : Stmt := top 36
abbrev s_law_wild_call : Stmt := top 37
abbrev s_law_wild_test : Stmt := top 38
abbrev s_law_wild_statement : Stmt := top 39
abbrev s_law_wild_block : Stmt := top 40
abbrev s_law_wild_core : Stmt := top 41
abbrev s_law_touches : Stmt := top 42
abbrev slaw : Stmt := top 43
def nms : List (PySem.Str × Nat) := ("statements_in", 1) :: ("proc_named", 2) :: ("assigned_in", 1) :: ("passed_on", 3) :: ("moving_table", 1) :: ("variable_of", 1) :: ("moving_items", 2) :: ("moving_of", 2) :: ("inputs_of_proc", 1) :: ("states_of_proc", 2) :: ("outcomes_of_proc", 2) :: ("inputs_of", 2) :: ("states_of", 2) :: ("outcomes_of", 2) :: ("changed_in", 1) :: ("passed_to", 3) :: ("touched_table", 1) :: ("touched_of", 2) :: ("_law_start", 1) :: ("_law_draw", 2) :: ("_law_one_of", 2) :: ("_law_shuffled", 2) :: ("_law_words", 2) :: ("_law_is_int", 1) :: ("_law_same", 2) :: ("_law_key", 1) :: ("_law_statements", 1) :: ("_law_moves", 1) :: ("_law_states", 2) :: ("_law_outcomes", 2) :: ("_law_proc", 2) :: ("_law_wild_head", 2) :: ("_law_wild_value", 4) :: ("_law_wild_call", 3) :: ("_law_wild_test", 4) :: ("_law_wild_statement", 5) :: ("_law_wild_block", 5) :: ("_law_wild_core", 1) :: ("_law_touches", 1) :: ("law", 1) :: []
def cnms : List PySem.Str := ["CHANGING"]
def nm (g : Nat) : Option (PySem.Str × Nat) := nms[g]?
def cn (g : Nat) : Option PySem.Str := cnms[g]?
theorem sc_statements_in : FnScope ["body", "found", "statement", "block"] ["body"] (defScope sstatements_in) := ⟨rfl, rfl, rfl, by decide +kernel, rfl, by decide +kernel, by decide +kernel⟩
theorem ag_statements_in : agSs dstatements_in.body ⟨["body", "found", "statement", "block"], defScope sstatements_in, fun _ => true, nm, cn⟩ (defBody sstatements_in) = true := by decide +kernel
theorem sc_proc_named : FnScope ["core", "name", "proc"] ["core", "name"] (defScope sproc_named) := ⟨rfl, rfl, rfl, by decide +kernel, rfl, by decide +kernel, by decide +kernel⟩
theorem ag_proc_named : agSs dproc_named.body ⟨["core", "name", "proc"], defScope sproc_named, fun _ => true, nm, cn⟩ (defBody sproc_named) = true := by decide +kernel
theorem sc_assigned_in : FnScope ["proc", "found", "statement", "x", "expression"] ["proc"] (defScope sassigned_in) := ⟨rfl, rfl, rfl, by decide +kernel, rfl, by decide +kernel, by decide +kernel⟩
theorem ag_assigned_in : agSs dassigned_in.body ⟨["proc", "found", "statement", "x", "expression"], defScope sassigned_in, fun _ => true, nm, cn⟩ (defBody sassigned_in) = true := by decide +kernel
theorem sc_passed_on : FnScope ["core", "moving", "proc", "found", "statement", "parameters", "parameter", "argument"] ["core", "moving", "proc"] (defScope spassed_on) := ⟨rfl, rfl, rfl, by decide +kernel, rfl, by decide +kernel, by decide +kernel⟩
theorem ag_passed_on : agSs dpassed_on.body ⟨["core", "moving", "proc", "found", "statement", "parameters", "parameter", "argument"], defScope spassed_on, fun _ => true, nm, cn⟩ (defBody spassed_on) = true := by decide +kernel
theorem sc_moving_table : FnScope ["core", "moving", "growing", "proc", "name"] ["core"] (defScope smoving_table) := ⟨rfl, rfl, rfl, by decide +kernel, rfl, by decide +kernel, by decide +kernel⟩
theorem ag_moving_table : agSs dmoving_table.body ⟨["core", "moving", "growing", "proc", "name"], defScope smoving_table, fun _ => true, nm, cn⟩ (defBody smoving_table) = true := by decide +kernel
theorem sc_variable_of : FnScope ["item"] ["item"] (defScope svariable_of) := ⟨rfl, rfl, rfl, by decide +kernel, rfl, by decide +kernel, by decide +kernel⟩
theorem ag_variable_of : agSs dvariable_of.body ⟨["item"], defScope svariable_of, fun _ => true, nm, cn⟩ (defBody svariable_of) = true := by decide +kernel
theorem sc_moving_items : FnScope ["proc", "moving", "item"] ["proc", "moving"] (defScope smoving_items) := ⟨rfl, rfl, rfl, by decide +kernel, rfl, by decide +kernel, by decide +kernel⟩
theorem ag_moving_items : agSs dmoving_items.body ⟨["proc", "moving", "item"], defScope smoving_items, fun _ => true, nm, cn⟩ (defBody smoving_items) = true := by decide +kernel
theorem sc_moving_of : FnScope ["core", "name", "item"] ["core", "name"] (defScope smoving_of) := ⟨rfl, rfl, rfl, by decide +kernel, rfl, by decide +kernel, by decide +kernel⟩
theorem ag_moving_of : agSs dmoving_of.body ⟨["core", "name", "item"], defScope smoving_of, fun _ => true, nm, cn⟩ (defBody smoving_of) = true := by decide +kernel
theorem sc_inputs_of_proc : FnScope ["proc", "item"] ["proc"] (defScope sinputs_of_proc) := ⟨rfl, rfl, rfl, by decide +kernel, rfl, by decide +kernel, by decide +kernel⟩
theorem ag_inputs_of_proc : agSs dinputs_of_proc.body ⟨["proc", "item"], defScope sinputs_of_proc, fun _ => true, nm, cn⟩ (defBody sinputs_of_proc) = true := by decide +kernel
theorem sc_states_of_proc : FnScope ["proc", "moving", "item"] ["proc", "moving"] (defScope sstates_of_proc) := ⟨rfl, rfl, rfl, by decide +kernel, rfl, by decide +kernel, by decide +kernel⟩
theorem ag_states_of_proc : agSs dstates_of_proc.body ⟨["proc", "moving", "item"], defScope sstates_of_proc, fun _ => true, nm, cn⟩ (defBody sstates_of_proc) = true := by decide +kernel
theorem sc_outcomes_of_proc : FnScope ["proc", "moving", "arrays", "item"] ["proc", "moving"] (defScope soutcomes_of_proc) := ⟨rfl, rfl, rfl, by decide +kernel, rfl, by decide +kernel, by decide +kernel⟩
theorem ag_outcomes_of_proc : agSs doutcomes_of_proc.body ⟨["proc", "moving", "arrays", "item"], defScope soutcomes_of_proc, fun _ => true, nm, cn⟩ (defBody soutcomes_of_proc) = true := by decide +kernel
theorem sc_inputs_of : FnScope ["core", "name"] ["core", "name"] (defScope sinputs_of) := ⟨rfl, rfl, rfl, by decide +kernel, rfl, by decide +kernel, by decide +kernel⟩
theorem ag_inputs_of : agSs dinputs_of.body ⟨["core", "name"], defScope sinputs_of, fun _ => true, nm, cn⟩ (defBody sinputs_of) = true := by decide +kernel
theorem sc_states_of : FnScope ["core", "name"] ["core", "name"] (defScope sstates_of) := ⟨rfl, rfl, rfl, by decide +kernel, rfl, by decide +kernel, by decide +kernel⟩
theorem ag_states_of : agSs dstates_of.body ⟨["core", "name"], defScope sstates_of, fun _ => true, nm, cn⟩ (defBody sstates_of) = true := by decide +kernel
theorem sc_outcomes_of : FnScope ["core", "name"] ["core", "name"] (defScope soutcomes_of) := ⟨rfl, rfl, rfl, by decide +kernel, rfl, by decide +kernel, by decide +kernel⟩
theorem ag_outcomes_of : agSs doutcomes_of.body ⟨["core", "name"], defScope soutcomes_of, fun _ => true, nm, cn⟩ (defBody soutcomes_of) = true := by decide +kernel
theorem sc_changed_in : FnScope ["proc", "found", "statement"] ["proc"] (defScope schanged_in) := ⟨rfl, rfl, rfl, by decide +kernel, rfl, by decide +kernel, by decide +kernel⟩
theorem ag_changed_in : agSs dchanged_in.body ⟨["proc", "found", "statement"], defScope schanged_in, fun _ => true, nm, cn⟩ (defBody schanged_in) = true := by decide +kernel
theorem sc_passed_to : FnScope ["core", "table", "proc", "found", "statement", "parameter", "argument"] ["core", "table", "proc"] (defScope spassed_to) := ⟨rfl, rfl, rfl, by decide +kernel, rfl, by decide +kernel, by decide +kernel⟩
theorem ag_passed_to : agSs dpassed_to.body ⟨["core", "table", "proc", "found", "statement", "parameter", "argument"], defScope spassed_to, fun _ => true, nm, cn⟩ (defBody spassed_to) = true := by decide +kernel
theorem sc_touched_table : FnScope ["core", "table", "growing", "proc", "name"] ["core"] (defScope stouched_table) := ⟨rfl, rfl, rfl, by decide +kernel, rfl, by decide +kernel, by decide +kernel⟩
theorem ag_touched_table : agSs dtouched_table.body ⟨["core", "table", "growing", "proc", "name"], defScope stouched_table, fun _ => true, nm, cn⟩ (defBody stouched_table) = true := by decide +kernel
theorem sc_touched_of : FnScope ["core", "name", "table", "parameters", "item"] ["core", "name"] (defScope stouched_of) := ⟨rfl, rfl, rfl, by decide +kernel, rfl, by decide +kernel, by decide +kernel⟩
theorem ag_touched_of : agSs dtouched_of.body ⟨["core", "name", "table", "parameters", "item"], defScope stouched_of, fun _ => true, nm, cn⟩ (defBody stouched_of) = true := by decide +kernel
theorem sc__law_start : FnScope ["script"] ["script"] (defScope s_law_start) := ⟨rfl, rfl, rfl, by decide +kernel, rfl, by decide +kernel, by decide +kernel⟩
theorem ag__law_start : agSs d_law_start.body ⟨["script"], defScope s_law_start, fun _ => true, nm, cn⟩ (defBody s_law_start) = true := by decide +kernel
theorem sc__law_draw : FnScope ["state", "most", "cell", "mixed", "found"] ["state", "most"] (defScope s_law_draw) := ⟨rfl, rfl, rfl, by decide +kernel, rfl, by decide +kernel, by decide +kernel⟩
theorem ag__law_draw : agSs d_law_draw.body ⟨["state", "most", "cell", "mixed", "found"], defScope s_law_draw, fun _ => true, nm, cn⟩ (defBody s_law_draw) = true := by decide +kernel
theorem sc__law_one_of : FnScope ["state", "items"] ["state", "items"] (defScope s_law_one_of) := ⟨rfl, rfl, rfl, by decide +kernel, rfl, by decide +kernel, by decide +kernel⟩
theorem ag__law_one_of : agSs d_law_one_of.body ⟨["state", "items"], defScope s_law_one_of, fun _ => true, nm, cn⟩ (defBody s_law_one_of) = true := by decide +kernel
theorem sc__law_shuffled : FnScope ["state", "items", "found", "item"] ["state", "items"] (defScope s_law_shuffled) := ⟨rfl, rfl, rfl, by decide +kernel, rfl, by decide +kernel, by decide +kernel⟩
theorem ag__law_shuffled : agSs d_law_shuffled.body ⟨["state", "items", "found", "item"], defScope s_law_shuffled, fun _ => true, nm, cn⟩ (defBody s_law_shuffled) = true := by decide +kernel
theorem sc__law_words : FnScope ["state", "many", "letters", "start", "step", "shared", "k"] ["state", "many"] (defScope s_law_words) := ⟨rfl, rfl, rfl, by decide +kernel, rfl, by decide +kernel, by decide +kernel⟩
theorem ag__law_words : agSs d_law_words.body ⟨["state", "many", "letters", "start", "step", "shared", "k"], defScope s_law_words, fun _ => true, nm, cn⟩ (defBody s_law_words) = true := by decide +kernel
theorem sc__law_is_int : FnScope ["x"] ["x"] (defScope s_law_is_int) := ⟨rfl, rfl, rfl, by decide +kernel, rfl, by decide +kernel, by decide +kernel⟩
theorem ag__law_is_int : agSs d_law_is_int.body ⟨["x"], defScope s_law_is_int, fun _ => true, nm, cn⟩ (defBody s_law_is_int) = true := by decide +kernel
theorem sc__law_same : FnScope ["x", "y", "k"] ["x", "y"] (defScope s_law_same) := ⟨rfl, rfl, rfl, by decide +kernel, rfl, by decide +kernel, by decide +kernel⟩
theorem ag__law_same : agSs d_law_same.body ⟨["x", "y", "k"], defScope s_law_same, fun _ => true, nm, cn⟩ (defBody s_law_same) = true := by decide +kernel
theorem sc__law_key : FnScope ["item"] ["item"] (defScope s_law_key) := ⟨rfl, rfl, rfl, by decide +kernel, rfl, by decide +kernel, by decide +kernel⟩
theorem ag__law_key : agSs d_law_key.body ⟨["item"], defScope s_law_key, fun _ => true, nm, cn⟩ (defBody s_law_key) = true := by decide +kernel
theorem sc__law_statements : FnScope ["body", "found", "s"] ["body"] (defScope s_law_statements) := ⟨rfl, rfl, rfl, by decide +kernel, rfl, by decide +kernel, by decide +kernel⟩
theorem ag__law_statements : agSs d_law_statements.body ⟨["body", "found", "s"], defScope s_law_statements, fun _ => true, nm, cn⟩ (defBody s_law_statements) = true := by decide +kernel
theorem sc__law_moves : FnScope ["core", "table", "p", "turn", "keys", "s", "parameters", "passed", "k", "x", "e", "q"] ["core"] (defScope s_law_moves) := ⟨rfl, rfl, rfl, by decide +kernel, rfl, by decide +kernel, by decide +kernel⟩
theorem ag__law_moves : agSs d_law_moves.body ⟨["core", "table", "p", "turn", "keys", "s", "parameters", "passed", "k", "x", "e", "q"], defScope s_law_moves, fun _ => true, nm, cn⟩ (defBody s_law_moves) = true := by decide +kernel
theorem sc__law_states : FnScope ["p", "moved", "item"] ["p", "moved"] (defScope s_law_states) := ⟨rfl, rfl, rfl, by decide +kernel, rfl, by decide +kernel, by decide +kernel⟩
theorem ag__law_states : agSs d_law_states.body ⟨["p", "moved", "item"], defScope s_law_states, fun _ => true, nm, cn⟩ (defBody s_law_states) = true := by decide +kernel
theorem sc__law_outcomes : FnScope ["p", "moved", "kind", "x"] ["p", "moved"] (defScope s_law_outcomes) := ⟨rfl, rfl, rfl, by decide +kernel, rfl, by decide +kernel, by decide +kernel⟩
theorem ag__law_outcomes : agSs d_law_outcomes.body ⟨["p", "moved", "kind", "x"], defScope s_law_outcomes, fun _ => true, nm, cn⟩ (defBody s_law_outcomes) = true := by decide +kernel
theorem sc__law_proc : FnScope ["core", "name", "p"] ["core", "name"] (defScope s_law_proc) := ⟨rfl, rfl, rfl, by decide +kernel, rfl, by decide +kernel, by decide +kernel⟩
theorem ag__law_proc : agSs d_law_proc.body ⟨["core", "name", "p"], defScope s_law_proc, fun _ => true, nm, cn⟩ (defBody s_law_proc) = true := by decide +kernel
theorem sc__law_wild_head : FnScope ["state", "name", "words", "items", "places", "head", "kind", "x"] ["state", "name"] (defScope s_law_wild_head) := ⟨rfl, rfl, rfl, by decide +kernel, rfl, by decide +kernel, by decide +kernel⟩
theorem ag__law_wild_head : agSs d_law_wild_head.body ⟨["state", "name", "words", "items", "places", "head", "kind", "x"], defScope s_law_wild_head, fun _ => true, nm, cn⟩ (defBody s_law_wild_head) = true := by decide +kernel
theorem sc__law_wild_value : FnScope ["state", "ints", "arrays", "depth", "x", "pick", "inner"] ["state", "ints", "arrays", "depth"] (defScope s_law_wild_value) := ⟨rfl, rfl, rfl, by decide +kernel, rfl, by decide +kernel, by decide +kernel⟩
theorem ag__law_wild_value : agSs d_law_wild_value.body ⟨["state", "ints", "arrays", "depth", "x", "pick", "inner"], defScope s_law_wild_value, fun _ => true, nm, cn⟩ (defBody s_law_wild_value) = true := by decide +kernel
theorem sc__law_wild_call : FnScope ["state", "heads", "head", "callee", "passed", "given", "targets", "kind", "x"] ["state", "heads", "head"] (defScope s_law_wild_call) := ⟨rfl, rfl, rfl, by decide +kernel, rfl, by decide +kernel, by decide +kernel⟩
theorem ag__law_wild_call : agSs d_law_wild_call.body ⟨["state", "heads", "head", "callee", "passed", "given", "targets", "kind", "x"], defScope s_law_wild_call, fun _ => true, nm, cn⟩ (defBody s_law_wild_call) = true := by decide +kernel
theorem sc__law_wild_test : FnScope ["state", "ints", "arrays", "budget", "first", "c", "pick"] ["state", "ints", "arrays", "budget"] (defScope s_law_wild_test) := ⟨rfl, rfl, rfl, by decide +kernel, rfl, by decide +kernel, by decide +kernel⟩
theorem ag__law_wild_test : agSs d_law_wild_test.body ⟨["state", "ints", "arrays", "budget", "first", "c", "pick"], defScope s_law_wild_test, fun _ => true, nm, cn⟩ (defBody s_law_wild_test) = true := by decide +kernel
theorem sc__law_wild_statement : FnScope ["state", "heads", "head", "depth", "budget", "ints", "arrays", "pick", "x", "a", "test", "block", "count"] ["state", "heads", "head", "depth", "budget"] (defScope s_law_wild_statement) := ⟨rfl, rfl, rfl, by decide +kernel, rfl, by decide +kernel, by decide +kernel⟩
theorem ag__law_wild_statement : agSs d_law_wild_statement.body ⟨["state", "heads", "head", "depth", "budget", "ints", "arrays", "pick", "x", "a", "test", "block", "count"], defScope s_law_wild_statement, fun _ => true, nm, cn⟩ (defBody s_law_wild_statement) = true := by decide +kernel
theorem sc__law_wild_block : FnScope ["state", "heads", "head", "depth", "budget", "many", "k"] ["state", "heads", "head", "depth", "budget"] (defScope s_law_wild_block) := ⟨rfl, rfl, rfl, by decide +kernel, rfl, by decide +kernel, by decide +kernel⟩
theorem ag__law_wild_block : agSs d_law_wild_block.body ⟨["state", "heads", "head", "depth", "budget", "many", "k"], defScope s_law_wild_block, fun _ => true, nm, cn⟩ (defBody s_law_wild_block) = true := by decide +kernel
theorem sc__law_wild_core : FnScope ["state", "heads", "core", "head", "budget", "body", "items", "name"] ["state"] (defScope s_law_wild_core) := ⟨rfl, rfl, rfl, by decide +kernel, rfl, by decide +kernel, by decide +kernel⟩
theorem ag__law_wild_core : agSs d_law_wild_core.body ⟨["state", "heads", "core", "head", "budget", "body", "items", "name"], defScope s_law_wild_core, fun _ => true, nm, cn⟩ (defBody s_law_wild_core) = true := by decide +kernel
theorem sc__law_touches : FnScope ["core", "table", "p", "turn", "names", "s", "items", "passed", "k"] ["core"] (defScope s_law_touches) := ⟨rfl, rfl, rfl, by decide +kernel, rfl, by decide +kernel, by decide +kernel⟩
theorem ag__law_touches : agSs d_law_touches.body ⟨["core", "table", "p", "turn", "names", "s", "items", "passed", "k"], defScope s_law_touches, fun _ => true, nm, cn⟩ (defBody s_law_touches) = true := by decide +kernel
theorem sc_law : FnScope ["script", "state", "turn", "core", "moves", "touches", "p", "due", "item", "kind", "x"] ["script"] (defScope slaw) := ⟨rfl, rfl, rfl, by decide +kernel, rfl, by decide +kernel, by decide +kernel⟩
theorem ag_law : agSs dlaw.body ⟨["script", "state", "turn", "core", "moves", "touches", "p", "due", "item", "kind", "x"], defScope slaw, fun _ => true, nm, cn⟩ (defBody slaw) = true := by decide +kernel
def dd_statements_in : He.DefD := ⟨("statements_in", none), "statements_in", "statements_in", defArgs sstatements_in, defBody sstatements_in, defScope sstatements_in, [], []⟩
def dd_proc_named : He.DefD := ⟨("proc_named", none), "proc_named", "proc_named", defArgs sproc_named, defBody sproc_named, defScope sproc_named, [], []⟩
def dd_assigned_in : He.DefD := ⟨("assigned_in", none), "assigned_in", "assigned_in", defArgs sassigned_in, defBody sassigned_in, defScope sassigned_in, [], []⟩
def dd_passed_on : He.DefD := ⟨("passed_on", none), "passed_on", "passed_on", defArgs spassed_on, defBody spassed_on, defScope spassed_on, [], []⟩
def dd_moving_table : He.DefD := ⟨("moving_table", none), "moving_table", "moving_table", defArgs smoving_table, defBody smoving_table, defScope smoving_table, [], []⟩
def dd_variable_of : He.DefD := ⟨("variable_of", none), "variable_of", "variable_of", defArgs svariable_of, defBody svariable_of, defScope svariable_of, [], []⟩
def dd_moving_items : He.DefD := ⟨("moving_items", none), "moving_items", "moving_items", defArgs smoving_items, defBody smoving_items, defScope smoving_items, [], []⟩
def dd_moving_of : He.DefD := ⟨("moving_of", none), "moving_of", "moving_of", defArgs smoving_of, defBody smoving_of, defScope smoving_of, [], []⟩
def dd_inputs_of_proc : He.DefD := ⟨("inputs_of_proc", none), "inputs_of_proc", "inputs_of_proc", defArgs sinputs_of_proc, defBody sinputs_of_proc, defScope sinputs_of_proc, [], []⟩
def dd_states_of_proc : He.DefD := ⟨("states_of_proc", none), "states_of_proc", "states_of_proc", defArgs sstates_of_proc, defBody sstates_of_proc, defScope sstates_of_proc, [], []⟩
def dd_outcomes_of_proc : He.DefD := ⟨("outcomes_of_proc", none), "outcomes_of_proc", "outcomes_of_proc", defArgs soutcomes_of_proc, defBody soutcomes_of_proc, defScope soutcomes_of_proc, [], []⟩
def dd_inputs_of : He.DefD := ⟨("inputs_of", none), "inputs_of", "inputs_of", defArgs sinputs_of, defBody sinputs_of, defScope sinputs_of, [], []⟩
def dd_states_of : He.DefD := ⟨("states_of", none), "states_of", "states_of", defArgs sstates_of, defBody sstates_of, defScope sstates_of, [], []⟩
def dd_outcomes_of : He.DefD := ⟨("outcomes_of", none), "outcomes_of", "outcomes_of", defArgs soutcomes_of, defBody soutcomes_of, defScope soutcomes_of, [], []⟩
def dd_changed_in : He.DefD := ⟨("changed_in", none), "changed_in", "changed_in", defArgs schanged_in, defBody schanged_in, defScope schanged_in, [], []⟩
def dd_passed_to : He.DefD := ⟨("passed_to", none), "passed_to", "passed_to", defArgs spassed_to, defBody spassed_to, defScope spassed_to, [], []⟩
def dd_touched_table : He.DefD := ⟨("touched_table", none), "touched_table", "touched_table", defArgs stouched_table, defBody stouched_table, defScope stouched_table, [], []⟩
def dd_touched_of : He.DefD := ⟨("touched_of", none), "touched_of", "touched_of", defArgs stouched_of, defBody stouched_of, defScope stouched_of, [], []⟩
def dd__law_start : He.DefD := ⟨("_law_start", none), "_law_start", "_law_start", defArgs s_law_start, defBody s_law_start, defScope s_law_start, [], []⟩
def dd__law_draw : He.DefD := ⟨("_law_draw", none), "_law_draw", "_law_draw", defArgs s_law_draw, defBody s_law_draw, defScope s_law_draw, [], []⟩
def dd__law_one_of : He.DefD := ⟨("_law_one_of", none), "_law_one_of", "_law_one_of", defArgs s_law_one_of, defBody s_law_one_of, defScope s_law_one_of, [], []⟩
def dd__law_shuffled : He.DefD := ⟨("_law_shuffled", none), "_law_shuffled", "_law_shuffled", defArgs s_law_shuffled, defBody s_law_shuffled, defScope s_law_shuffled, [], []⟩
def dd__law_words : He.DefD := ⟨("_law_words", none), "_law_words", "_law_words", defArgs s_law_words, defBody s_law_words, defScope s_law_words, [], []⟩
def dd__law_is_int : He.DefD := ⟨("_law_is_int", none), "_law_is_int", "_law_is_int", defArgs s_law_is_int, defBody s_law_is_int, defScope s_law_is_int, [], []⟩
def dd__law_same : He.DefD := ⟨("_law_same", none), "_law_same", "_law_same", defArgs s_law_same, defBody s_law_same, defScope s_law_same, [], []⟩
def dd__law_key : He.DefD := ⟨("_law_key", none), "_law_key", "_law_key", defArgs s_law_key, defBody s_law_key, defScope s_law_key, [], []⟩
def dd__law_statements : He.DefD := ⟨("_law_statements", none), "_law_statements", "_law_statements", defArgs s_law_statements, defBody s_law_statements, defScope s_law_statements, [], []⟩
def dd__law_moves : He.DefD := ⟨("_law_moves", none), "_law_moves", "_law_moves", defArgs s_law_moves, defBody s_law_moves, defScope s_law_moves, [], []⟩
def dd__law_states : He.DefD := ⟨("_law_states", none), "_law_states", "_law_states", defArgs s_law_states, defBody s_law_states, defScope s_law_states, [], []⟩
def dd__law_outcomes : He.DefD := ⟨("_law_outcomes", none), "_law_outcomes", "_law_outcomes", defArgs s_law_outcomes, defBody s_law_outcomes, defScope s_law_outcomes, [], []⟩
def dd__law_proc : He.DefD := ⟨("_law_proc", none), "_law_proc", "_law_proc", defArgs s_law_proc, defBody s_law_proc, defScope s_law_proc, [], []⟩
def dd__law_wild_head : He.DefD := ⟨("_law_wild_head", none), "_law_wild_head", "_law_wild_head", defArgs s_law_wild_head, defBody s_law_wild_head, defScope s_law_wild_head, [], []⟩
def dd__law_wild_value : He.DefD := ⟨("_law_wild_value", none), "_law_wild_value", "_law_wild_value", defArgs s_law_wild_value, defBody s_law_wild_value, defScope s_law_wild_value, [], []⟩
def dd__law_wild_call : He.DefD := ⟨("_law_wild_call", none), "_law_wild_call", "_law_wild_call", defArgs s_law_wild_call, defBody s_law_wild_call, defScope s_law_wild_call, [], []⟩
def dd__law_wild_test : He.DefD := ⟨("_law_wild_test", none), "_law_wild_test", "_law_wild_test", defArgs s_law_wild_test, defBody s_law_wild_test, defScope s_law_wild_test, [], []⟩
def dd__law_wild_statement : He.DefD := ⟨("_law_wild_statement", none), "_law_wild_statement", "_law_wild_statement", defArgs s_law_wild_statement, defBody s_law_wild_statement, defScope s_law_wild_statement, [], []⟩
def dd__law_wild_block : He.DefD := ⟨("_law_wild_block", none), "_law_wild_block", "_law_wild_block", defArgs s_law_wild_block, defBody s_law_wild_block, defScope s_law_wild_block, [], []⟩
def dd__law_wild_core : He.DefD := ⟨("_law_wild_core", none), "_law_wild_core", "_law_wild_core", defArgs s_law_wild_core, defBody s_law_wild_core, defScope s_law_wild_core, [], []⟩
def dd__law_touches : He.DefD := ⟨("_law_touches", none), "_law_touches", "_law_touches", defArgs s_law_touches, defBody s_law_touches, defScope s_law_touches, [], []⟩
def dd_law : He.DefD := ⟨("law", none), "law", "law", defArgs slaw, defBody slaw, defScope slaw, [], []⟩
def fn : List He.DefD := (dd_statements_in) :: (dd_proc_named) :: (dd_assigned_in) :: (dd_passed_on) :: (dd_moving_table) :: (dd_variable_of) :: (dd_moving_items) :: (dd_moving_of) :: (dd_inputs_of_proc) :: (dd_states_of_proc) :: (dd_outcomes_of_proc) :: (dd_inputs_of) :: (dd_states_of) :: (dd_outcomes_of) :: (dd_changed_in) :: (dd_passed_to) :: (dd_touched_table) :: (dd_touched_of) :: (dd__law_start) :: (dd__law_draw) :: (dd__law_one_of) :: (dd__law_shuffled) :: (dd__law_words) :: (dd__law_is_int) :: (dd__law_same) :: (dd__law_key) :: (dd__law_statements) :: (dd__law_moves) :: (dd__law_states) :: (dd__law_outcomes) :: (dd__law_proc) :: (dd__law_wild_head) :: (dd__law_wild_value) :: (dd__law_wild_call) :: (dd__law_wild_test) :: (dd__law_wild_statement) :: (dd__law_wild_block) :: (dd__law_wild_core) :: (dd__law_touches) :: (dd_law) :: []
def fa : List He.Fa := (.glo "statements_in") :: (.glo "proc_named") :: (.glo "assigned_in") :: (.glo "passed_on") :: (.glo "moving_table") :: (.glo "variable_of") :: (.glo "moving_items") :: (.glo "moving_of") :: (.glo "inputs_of_proc") :: (.glo "states_of_proc") :: (.glo "outcomes_of_proc") :: (.glo "inputs_of") :: (.glo "states_of") :: (.glo "outcomes_of") :: (.glo "changed_in") :: (.glo "passed_to") :: (.glo "touched_table") :: (.glo "touched_of") :: (.glo "_law_start") :: (.glo "_law_draw") :: (.glo "_law_one_of") :: (.glo "_law_shuffled") :: (.glo "_law_words") :: (.glo "_law_is_int") :: (.glo "_law_same") :: (.glo "_law_key") :: (.glo "_law_statements") :: (.glo "_law_moves") :: (.glo "_law_states") :: (.glo "_law_outcomes") :: (.glo "_law_proc") :: (.glo "_law_wild_head") :: (.glo "_law_wild_value") :: (.glo "_law_wild_call") :: (.glo "_law_wild_test") :: (.glo "_law_wild_statement") :: (.glo "_law_wild_block") :: (.glo "_law_wild_core") :: (.glo "_law_touches") :: (.glo "law") :: (.free "isinstance") :: (.free "range") :: (.free "zip") :: (.free "enumerate") :: (.free "int") :: (.free "str") :: (.free "tuple") :: (.free "bool") :: (.free "list") :: (.free "len") :: (.free "all") :: (.free "any") :: (.free "sum") :: (.free "abs") :: (.free "max") :: (.free "min") :: (.free "ord") :: (.free "sorted") :: []
def exL : List (PySem.Str × D) := []
def tbs : List (PySem.Str × List Tx) := ("CHANGING", [[115, 116, 111, 114, 101], [112, 117, 115, 104], [112, 111, 112]]) :: []
def exD : List (PySem.Str × List Tx × List Int) := ("CHANGING", [[115, 116, 111, 114, 101], [112, 117, 115, 104], [112, 111, 112]], [1, 2, 2]) :: []
def exC (K : PySem.W.Frag) : Bool := (exL.all fun p => cOk p.1 p.2 K) && exD.all fun p => dvOk K p.1 p.2.1 p.2.2
abbrev TbOk (K : PySem.W.Frag) (w : World) : Prop := tbs.map (fun t => dcK K t.1) = tbs.map fun t => some (He.keysIn w.params (t.2.map toS))
theorem lk {K : PySem.W.Frag} {w : World} {h : Heap} {mg : PySem.Str → Option Value} (X : K.In h) (G : h.Ns mainGlobals mg) (c : He.SaysD fa fn K) (cx0 : exC K = true) (cd : TbOk K w) : Lk prog K w mg nm cn where
  defs g x n h := by
    match g, h with
    | 0, h =>
      cases h
      obtain ⟨fd, F⟩ := c.def_ 0 (d := dd_statements_in) rfl
      exact ⟨_, fd, ["body"], ⟨dstatements_in, _, _, _, _, ["body", "found", "statement", "block"], rfl, rfl, F, sc_statements_in, rfl, ag_statements_in⟩, rfl, FunD.bindsN (ps := ["body"]) F fun _ _ _ _ _ _ us hl => match us, hl with | [_], _ => rfl, He.glo_ok X G (c.fact 0 (f := .glo "statements_in") rfl)⟩
    | 1, h =>
      cases h
      obtain ⟨fd, F⟩ := c.def_ 1 (d := dd_proc_named) rfl
      exact ⟨_, fd, ["core", "name"], ⟨dproc_named, _, _, _, _, ["core", "name", "proc"], rfl, rfl, F, sc_proc_named, rfl, ag_proc_named⟩, rfl, FunD.bindsN (ps := ["core", "name"]) F fun _ _ _ _ _ _ us hl => match us, hl with | [_, _], _ => rfl, He.glo_ok X G (c.fact 1 (f := .glo "proc_named") rfl)⟩
    | 2, h =>
      cases h
      obtain ⟨fd, F⟩ := c.def_ 2 (d := dd_assigned_in) rfl
      exact ⟨_, fd, ["proc"], ⟨dassigned_in, _, _, _, _, ["proc", "found", "statement", "x", "expression"], rfl, rfl, F, sc_assigned_in, rfl, ag_assigned_in⟩, rfl, FunD.bindsN (ps := ["proc"]) F fun _ _ _ _ _ _ us hl => match us, hl with | [_], _ => rfl, He.glo_ok X G (c.fact 2 (f := .glo "assigned_in") rfl)⟩
    | 3, h =>
      cases h
      obtain ⟨fd, F⟩ := c.def_ 3 (d := dd_passed_on) rfl
      exact ⟨_, fd, ["core", "moving", "proc"], ⟨dpassed_on, _, _, _, _, ["core", "moving", "proc", "found", "statement", "parameters", "parameter", "argument"], rfl, rfl, F, sc_passed_on, rfl, ag_passed_on⟩, rfl, FunD.bindsN (ps := ["core", "moving", "proc"]) F fun _ _ _ _ _ _ us hl => match us, hl with | [_, _, _], _ => rfl, He.glo_ok X G (c.fact 3 (f := .glo "passed_on") rfl)⟩
    | 4, h =>
      cases h
      obtain ⟨fd, F⟩ := c.def_ 4 (d := dd_moving_table) rfl
      exact ⟨_, fd, ["core"], ⟨dmoving_table, _, _, _, _, ["core", "moving", "growing", "proc", "name"], rfl, rfl, F, sc_moving_table, rfl, ag_moving_table⟩, rfl, FunD.bindsN (ps := ["core"]) F fun _ _ _ _ _ _ us hl => match us, hl with | [_], _ => rfl, He.glo_ok X G (c.fact 4 (f := .glo "moving_table") rfl)⟩
    | 5, h =>
      cases h
      obtain ⟨fd, F⟩ := c.def_ 5 (d := dd_variable_of) rfl
      exact ⟨_, fd, ["item"], ⟨dvariable_of, _, _, _, _, ["item"], rfl, rfl, F, sc_variable_of, rfl, ag_variable_of⟩, rfl, FunD.bindsN (ps := ["item"]) F fun _ _ _ _ _ _ us hl => match us, hl with | [_], _ => rfl, He.glo_ok X G (c.fact 5 (f := .glo "variable_of") rfl)⟩
    | 6, h =>
      cases h
      obtain ⟨fd, F⟩ := c.def_ 6 (d := dd_moving_items) rfl
      exact ⟨_, fd, ["proc", "moving"], ⟨dmoving_items, _, _, _, _, ["proc", "moving", "item"], rfl, rfl, F, sc_moving_items, rfl, ag_moving_items⟩, rfl, FunD.bindsN (ps := ["proc", "moving"]) F fun _ _ _ _ _ _ us hl => match us, hl with | [_, _], _ => rfl, He.glo_ok X G (c.fact 6 (f := .glo "moving_items") rfl)⟩
    | 7, h =>
      cases h
      obtain ⟨fd, F⟩ := c.def_ 7 (d := dd_moving_of) rfl
      exact ⟨_, fd, ["core", "name"], ⟨dmoving_of, _, _, _, _, ["core", "name", "item"], rfl, rfl, F, sc_moving_of, rfl, ag_moving_of⟩, rfl, FunD.bindsN (ps := ["core", "name"]) F fun _ _ _ _ _ _ us hl => match us, hl with | [_, _], _ => rfl, He.glo_ok X G (c.fact 7 (f := .glo "moving_of") rfl)⟩
    | 8, h =>
      cases h
      obtain ⟨fd, F⟩ := c.def_ 8 (d := dd_inputs_of_proc) rfl
      exact ⟨_, fd, ["proc"], ⟨dinputs_of_proc, _, _, _, _, ["proc", "item"], rfl, rfl, F, sc_inputs_of_proc, rfl, ag_inputs_of_proc⟩, rfl, FunD.bindsN (ps := ["proc"]) F fun _ _ _ _ _ _ us hl => match us, hl with | [_], _ => rfl, He.glo_ok X G (c.fact 8 (f := .glo "inputs_of_proc") rfl)⟩
    | 9, h =>
      cases h
      obtain ⟨fd, F⟩ := c.def_ 9 (d := dd_states_of_proc) rfl
      exact ⟨_, fd, ["proc", "moving"], ⟨dstates_of_proc, _, _, _, _, ["proc", "moving", "item"], rfl, rfl, F, sc_states_of_proc, rfl, ag_states_of_proc⟩, rfl, FunD.bindsN (ps := ["proc", "moving"]) F fun _ _ _ _ _ _ us hl => match us, hl with | [_, _], _ => rfl, He.glo_ok X G (c.fact 9 (f := .glo "states_of_proc") rfl)⟩
    | 10, h =>
      cases h
      obtain ⟨fd, F⟩ := c.def_ 10 (d := dd_outcomes_of_proc) rfl
      exact ⟨_, fd, ["proc", "moving"], ⟨doutcomes_of_proc, _, _, _, _, ["proc", "moving", "arrays", "item"], rfl, rfl, F, sc_outcomes_of_proc, rfl, ag_outcomes_of_proc⟩, rfl, FunD.bindsN (ps := ["proc", "moving"]) F fun _ _ _ _ _ _ us hl => match us, hl with | [_, _], _ => rfl, He.glo_ok X G (c.fact 10 (f := .glo "outcomes_of_proc") rfl)⟩
    | 11, h =>
      cases h
      obtain ⟨fd, F⟩ := c.def_ 11 (d := dd_inputs_of) rfl
      exact ⟨_, fd, ["core", "name"], ⟨dinputs_of, _, _, _, _, ["core", "name"], rfl, rfl, F, sc_inputs_of, rfl, ag_inputs_of⟩, rfl, FunD.bindsN (ps := ["core", "name"]) F fun _ _ _ _ _ _ us hl => match us, hl with | [_, _], _ => rfl, He.glo_ok X G (c.fact 11 (f := .glo "inputs_of") rfl)⟩
    | 12, h =>
      cases h
      obtain ⟨fd, F⟩ := c.def_ 12 (d := dd_states_of) rfl
      exact ⟨_, fd, ["core", "name"], ⟨dstates_of, _, _, _, _, ["core", "name"], rfl, rfl, F, sc_states_of, rfl, ag_states_of⟩, rfl, FunD.bindsN (ps := ["core", "name"]) F fun _ _ _ _ _ _ us hl => match us, hl with | [_, _], _ => rfl, He.glo_ok X G (c.fact 12 (f := .glo "states_of") rfl)⟩
    | 13, h =>
      cases h
      obtain ⟨fd, F⟩ := c.def_ 13 (d := dd_outcomes_of) rfl
      exact ⟨_, fd, ["core", "name"], ⟨doutcomes_of, _, _, _, _, ["core", "name"], rfl, rfl, F, sc_outcomes_of, rfl, ag_outcomes_of⟩, rfl, FunD.bindsN (ps := ["core", "name"]) F fun _ _ _ _ _ _ us hl => match us, hl with | [_, _], _ => rfl, He.glo_ok X G (c.fact 13 (f := .glo "outcomes_of") rfl)⟩
    | 14, h =>
      cases h
      obtain ⟨fd, F⟩ := c.def_ 14 (d := dd_changed_in) rfl
      exact ⟨_, fd, ["proc"], ⟨dchanged_in, _, _, _, _, ["proc", "found", "statement"], rfl, rfl, F, sc_changed_in, rfl, ag_changed_in⟩, rfl, FunD.bindsN (ps := ["proc"]) F fun _ _ _ _ _ _ us hl => match us, hl with | [_], _ => rfl, He.glo_ok X G (c.fact 14 (f := .glo "changed_in") rfl)⟩
    | 15, h =>
      cases h
      obtain ⟨fd, F⟩ := c.def_ 15 (d := dd_passed_to) rfl
      exact ⟨_, fd, ["core", "table", "proc"], ⟨dpassed_to, _, _, _, _, ["core", "table", "proc", "found", "statement", "parameter", "argument"], rfl, rfl, F, sc_passed_to, rfl, ag_passed_to⟩, rfl, FunD.bindsN (ps := ["core", "table", "proc"]) F fun _ _ _ _ _ _ us hl => match us, hl with | [_, _, _], _ => rfl, He.glo_ok X G (c.fact 15 (f := .glo "passed_to") rfl)⟩
    | 16, h =>
      cases h
      obtain ⟨fd, F⟩ := c.def_ 16 (d := dd_touched_table) rfl
      exact ⟨_, fd, ["core"], ⟨dtouched_table, _, _, _, _, ["core", "table", "growing", "proc", "name"], rfl, rfl, F, sc_touched_table, rfl, ag_touched_table⟩, rfl, FunD.bindsN (ps := ["core"]) F fun _ _ _ _ _ _ us hl => match us, hl with | [_], _ => rfl, He.glo_ok X G (c.fact 16 (f := .glo "touched_table") rfl)⟩
    | 17, h =>
      cases h
      obtain ⟨fd, F⟩ := c.def_ 17 (d := dd_touched_of) rfl
      exact ⟨_, fd, ["core", "name"], ⟨dtouched_of, _, _, _, _, ["core", "name", "table", "parameters", "item"], rfl, rfl, F, sc_touched_of, rfl, ag_touched_of⟩, rfl, FunD.bindsN (ps := ["core", "name"]) F fun _ _ _ _ _ _ us hl => match us, hl with | [_, _], _ => rfl, He.glo_ok X G (c.fact 17 (f := .glo "touched_of") rfl)⟩
    | 18, h =>
      cases h
      obtain ⟨fd, F⟩ := c.def_ 18 (d := dd__law_start) rfl
      exact ⟨_, fd, ["script"], ⟨d_law_start, _, _, _, _, ["script"], rfl, rfl, F, sc__law_start, rfl, ag__law_start⟩, rfl, FunD.bindsN (ps := ["script"]) F fun _ _ _ _ _ _ us hl => match us, hl with | [_], _ => rfl, He.glo_ok X G (c.fact 18 (f := .glo "_law_start") rfl)⟩
    | 19, h =>
      cases h
      obtain ⟨fd, F⟩ := c.def_ 19 (d := dd__law_draw) rfl
      exact ⟨_, fd, ["state", "most"], ⟨d_law_draw, _, _, _, _, ["state", "most", "cell", "mixed", "found"], rfl, rfl, F, sc__law_draw, rfl, ag__law_draw⟩, rfl, FunD.bindsN (ps := ["state", "most"]) F fun _ _ _ _ _ _ us hl => match us, hl with | [_, _], _ => rfl, He.glo_ok X G (c.fact 19 (f := .glo "_law_draw") rfl)⟩
    | 20, h =>
      cases h
      obtain ⟨fd, F⟩ := c.def_ 20 (d := dd__law_one_of) rfl
      exact ⟨_, fd, ["state", "items"], ⟨d_law_one_of, _, _, _, _, ["state", "items"], rfl, rfl, F, sc__law_one_of, rfl, ag__law_one_of⟩, rfl, FunD.bindsN (ps := ["state", "items"]) F fun _ _ _ _ _ _ us hl => match us, hl with | [_, _], _ => rfl, He.glo_ok X G (c.fact 20 (f := .glo "_law_one_of") rfl)⟩
    | 21, h =>
      cases h
      obtain ⟨fd, F⟩ := c.def_ 21 (d := dd__law_shuffled) rfl
      exact ⟨_, fd, ["state", "items"], ⟨d_law_shuffled, _, _, _, _, ["state", "items", "found", "item"], rfl, rfl, F, sc__law_shuffled, rfl, ag__law_shuffled⟩, rfl, FunD.bindsN (ps := ["state", "items"]) F fun _ _ _ _ _ _ us hl => match us, hl with | [_, _], _ => rfl, He.glo_ok X G (c.fact 21 (f := .glo "_law_shuffled") rfl)⟩
    | 22, h =>
      cases h
      obtain ⟨fd, F⟩ := c.def_ 22 (d := dd__law_words) rfl
      exact ⟨_, fd, ["state", "many"], ⟨d_law_words, _, _, _, _, ["state", "many", "letters", "start", "step", "shared", "k"], rfl, rfl, F, sc__law_words, rfl, ag__law_words⟩, rfl, FunD.bindsN (ps := ["state", "many"]) F fun _ _ _ _ _ _ us hl => match us, hl with | [_, _], _ => rfl, He.glo_ok X G (c.fact 22 (f := .glo "_law_words") rfl)⟩
    | 23, h =>
      cases h
      obtain ⟨fd, F⟩ := c.def_ 23 (d := dd__law_is_int) rfl
      exact ⟨_, fd, ["x"], ⟨d_law_is_int, _, _, _, _, ["x"], rfl, rfl, F, sc__law_is_int, rfl, ag__law_is_int⟩, rfl, FunD.bindsN (ps := ["x"]) F fun _ _ _ _ _ _ us hl => match us, hl with | [_], _ => rfl, He.glo_ok X G (c.fact 23 (f := .glo "_law_is_int") rfl)⟩
    | 24, h =>
      cases h
      obtain ⟨fd, F⟩ := c.def_ 24 (d := dd__law_same) rfl
      exact ⟨_, fd, ["x", "y"], ⟨d_law_same, _, _, _, _, ["x", "y", "k"], rfl, rfl, F, sc__law_same, rfl, ag__law_same⟩, rfl, FunD.bindsN (ps := ["x", "y"]) F fun _ _ _ _ _ _ us hl => match us, hl with | [_, _], _ => rfl, He.glo_ok X G (c.fact 24 (f := .glo "_law_same") rfl)⟩
    | 25, h =>
      cases h
      obtain ⟨fd, F⟩ := c.def_ 25 (d := dd__law_key) rfl
      exact ⟨_, fd, ["item"], ⟨d_law_key, _, _, _, _, ["item"], rfl, rfl, F, sc__law_key, rfl, ag__law_key⟩, rfl, FunD.bindsN (ps := ["item"]) F fun _ _ _ _ _ _ us hl => match us, hl with | [_], _ => rfl, He.glo_ok X G (c.fact 25 (f := .glo "_law_key") rfl)⟩
    | 26, h =>
      cases h
      obtain ⟨fd, F⟩ := c.def_ 26 (d := dd__law_statements) rfl
      exact ⟨_, fd, ["body"], ⟨d_law_statements, _, _, _, _, ["body", "found", "s"], rfl, rfl, F, sc__law_statements, rfl, ag__law_statements⟩, rfl, FunD.bindsN (ps := ["body"]) F fun _ _ _ _ _ _ us hl => match us, hl with | [_], _ => rfl, He.glo_ok X G (c.fact 26 (f := .glo "_law_statements") rfl)⟩
    | 27, h =>
      cases h
      obtain ⟨fd, F⟩ := c.def_ 27 (d := dd__law_moves) rfl
      exact ⟨_, fd, ["core"], ⟨d_law_moves, _, _, _, _, ["core", "table", "p", "turn", "keys", "s", "parameters", "passed", "k", "x", "e", "q"], rfl, rfl, F, sc__law_moves, rfl, ag__law_moves⟩, rfl, FunD.bindsN (ps := ["core"]) F fun _ _ _ _ _ _ us hl => match us, hl with | [_], _ => rfl, He.glo_ok X G (c.fact 27 (f := .glo "_law_moves") rfl)⟩
    | 28, h =>
      cases h
      obtain ⟨fd, F⟩ := c.def_ 28 (d := dd__law_states) rfl
      exact ⟨_, fd, ["p", "moved"], ⟨d_law_states, _, _, _, _, ["p", "moved", "item"], rfl, rfl, F, sc__law_states, rfl, ag__law_states⟩, rfl, FunD.bindsN (ps := ["p", "moved"]) F fun _ _ _ _ _ _ us hl => match us, hl with | [_, _], _ => rfl, He.glo_ok X G (c.fact 28 (f := .glo "_law_states") rfl)⟩
    | 29, h =>
      cases h
      obtain ⟨fd, F⟩ := c.def_ 29 (d := dd__law_outcomes) rfl
      exact ⟨_, fd, ["p", "moved"], ⟨d_law_outcomes, _, _, _, _, ["p", "moved", "kind", "x"], rfl, rfl, F, sc__law_outcomes, rfl, ag__law_outcomes⟩, rfl, FunD.bindsN (ps := ["p", "moved"]) F fun _ _ _ _ _ _ us hl => match us, hl with | [_, _], _ => rfl, He.glo_ok X G (c.fact 29 (f := .glo "_law_outcomes") rfl)⟩
    | 30, h =>
      cases h
      obtain ⟨fd, F⟩ := c.def_ 30 (d := dd__law_proc) rfl
      exact ⟨_, fd, ["core", "name"], ⟨d_law_proc, _, _, _, _, ["core", "name", "p"], rfl, rfl, F, sc__law_proc, rfl, ag__law_proc⟩, rfl, FunD.bindsN (ps := ["core", "name"]) F fun _ _ _ _ _ _ us hl => match us, hl with | [_, _], _ => rfl, He.glo_ok X G (c.fact 30 (f := .glo "_law_proc") rfl)⟩
    | 31, h =>
      cases h
      obtain ⟨fd, F⟩ := c.def_ 31 (d := dd__law_wild_head) rfl
      exact ⟨_, fd, ["state", "name"], ⟨d_law_wild_head, _, _, _, _, ["state", "name", "words", "items", "places", "head", "kind", "x"], rfl, rfl, F, sc__law_wild_head, rfl, ag__law_wild_head⟩, rfl, FunD.bindsN (ps := ["state", "name"]) F fun _ _ _ _ _ _ us hl => match us, hl with | [_, _], _ => rfl, He.glo_ok X G (c.fact 31 (f := .glo "_law_wild_head") rfl)⟩
    | 32, h =>
      cases h
      obtain ⟨fd, F⟩ := c.def_ 32 (d := dd__law_wild_value) rfl
      exact ⟨_, fd, ["state", "ints", "arrays", "depth"], ⟨d_law_wild_value, _, _, _, _, ["state", "ints", "arrays", "depth", "x", "pick", "inner"], rfl, rfl, F, sc__law_wild_value, rfl, ag__law_wild_value⟩, rfl, FunD.bindsN (ps := ["state", "ints", "arrays", "depth"]) F fun _ _ _ _ _ _ us hl => match us, hl with | [_, _, _, _], _ => rfl, He.glo_ok X G (c.fact 32 (f := .glo "_law_wild_value") rfl)⟩
    | 33, h =>
      cases h
      obtain ⟨fd, F⟩ := c.def_ 33 (d := dd__law_wild_call) rfl
      exact ⟨_, fd, ["state", "heads", "head"], ⟨d_law_wild_call, _, _, _, _, ["state", "heads", "head", "callee", "passed", "given", "targets", "kind", "x"], rfl, rfl, F, sc__law_wild_call, rfl, ag__law_wild_call⟩, rfl, FunD.bindsN (ps := ["state", "heads", "head"]) F fun _ _ _ _ _ _ us hl => match us, hl with | [_, _, _], _ => rfl, He.glo_ok X G (c.fact 33 (f := .glo "_law_wild_call") rfl)⟩
    | 34, h =>
      cases h
      obtain ⟨fd, F⟩ := c.def_ 34 (d := dd__law_wild_test) rfl
      exact ⟨_, fd, ["state", "ints", "arrays", "budget"], ⟨d_law_wild_test, _, _, _, _, ["state", "ints", "arrays", "budget", "first", "c", "pick"], rfl, rfl, F, sc__law_wild_test, rfl, ag__law_wild_test⟩, rfl, FunD.bindsN (ps := ["state", "ints", "arrays", "budget"]) F fun _ _ _ _ _ _ us hl => match us, hl with | [_, _, _, _], _ => rfl, He.glo_ok X G (c.fact 34 (f := .glo "_law_wild_test") rfl)⟩
    | 35, h =>
      cases h
      obtain ⟨fd, F⟩ := c.def_ 35 (d := dd__law_wild_statement) rfl
      exact ⟨_, fd, ["state", "heads", "head", "depth", "budget"], ⟨d_law_wild_statement, _, _, _, _, ["state", "heads", "head", "depth", "budget", "ints", "arrays", "pick", "x", "a", "test", "block", "count"], rfl, rfl, F, sc__law_wild_statement, rfl, ag__law_wild_statement⟩, rfl, FunD.bindsN (ps := ["state", "heads", "head", "depth", "budget"]) F fun _ _ _ _ _ _ us hl => match us, hl with | [_, _, _, _, _], _ => rfl, He.glo_ok X G (c.fact 35 (f := .glo "_law_wild_statement") rfl)⟩
    | 36, h =>
      cases h
      obtain ⟨fd, F⟩ := c.def_ 36 (d := dd__law_wild_block) rfl
      exact ⟨_, fd, ["state", "heads", "head", "depth", "budget"], ⟨d_law_wild_block, _, _, _, _, ["state", "heads", "head", "depth", "budget", "many", "k"], rfl, rfl, F, sc__law_wild_block, rfl, ag__law_wild_block⟩, rfl, FunD.bindsN (ps := ["state", "heads", "head", "depth", "budget"]) F fun _ _ _ _ _ _ us hl => match us, hl with | [_, _, _, _, _], _ => rfl, He.glo_ok X G (c.fact 36 (f := .glo "_law_wild_block") rfl)⟩
    | 37, h =>
      cases h
      obtain ⟨fd, F⟩ := c.def_ 37 (d := dd__law_wild_core) rfl
      exact ⟨_, fd, ["state"], ⟨d_law_wild_core, _, _, _, _, ["state", "heads", "core", "head", "budget", "body", "items", "name"], rfl, rfl, F, sc__law_wild_core, rfl, ag__law_wild_core⟩, rfl, FunD.bindsN (ps := ["state"]) F fun _ _ _ _ _ _ us hl => match us, hl with | [_], _ => rfl, He.glo_ok X G (c.fact 37 (f := .glo "_law_wild_core") rfl)⟩
    | 38, h =>
      cases h
      obtain ⟨fd, F⟩ := c.def_ 38 (d := dd__law_touches) rfl
      exact ⟨_, fd, ["core"], ⟨d_law_touches, _, _, _, _, ["core", "table", "p", "turn", "names", "s", "items", "passed", "k"], rfl, rfl, F, sc__law_touches, rfl, ag__law_touches⟩, rfl, FunD.bindsN (ps := ["core"]) F fun _ _ _ _ _ _ us hl => match us, hl with | [_], _ => rfl, He.glo_ok X G (c.fact 38 (f := .glo "_law_touches") rfl)⟩
    | 39, h =>
      cases h
      obtain ⟨fd, F⟩ := c.def_ 39 (d := dd_law) rfl
      exact ⟨_, fd, ["script"], ⟨dlaw, _, _, _, _, ["script", "state", "turn", "core", "moves", "touches", "p", "due", "item", "kind", "x"], rfl, rfl, F, sc_law, rfl, ag_law⟩, rfl, FunD.bindsN (ps := ["script"]) F fun _ _ _ _ _ _ us hl => match us, hl with | [_], _ => rfl, He.glo_ok X G (c.fact 39 (f := .glo "law") rfl)⟩
    | k + 40, h => cases h
  cns g x h := by
    match g, h with
    | 0, h =>
      cases h
      have cx : (exD.all fun p => dvOk K p.1 p.2.1 p.2.2) = true := (Bool.and_eq_true_iff.mp cx0).2
      obtain ⟨a, e, D⟩ := dc_ok (w := w) X G (ts_get cd 0 (t := ("CHANGING", [[115, 116, 111, 114, 101], [112, 117, 115, 104], [112, 111, 112]])) rfl) (List.all_eq_true.mp cx ("CHANGING", [[115, 116, 111, 114, 101], [112, 117, 115, 104], [112, 111, 112]], [1, 2, 2]) (List.mem_of_getElem? (l := exD) (i := 0) rfl))
      exact .inr (.inr ⟨a, _, _, rfl, e, D⟩)
    | k + 1, h => cases h
  blt x h := by
    simp only [bltNames, List.mem_cons, List.not_mem_nil, or_false] at h
    rcases h with rfl | rfl | rfl | rfl | rfl | rfl | rfl | rfl | rfl | rfl | rfl | rfl | rfl | rfl | rfl | rfl | rfl | rfl
    · exact He.free_ok X G (c.fact 40 (f := .free "isinstance") rfl)
    · exact He.free_ok X G (c.fact 41 (f := .free "range") rfl)
    · exact He.free_ok X G (c.fact 42 (f := .free "zip") rfl)
    · exact He.free_ok X G (c.fact 43 (f := .free "enumerate") rfl)
    · exact He.free_ok X G (c.fact 44 (f := .free "int") rfl)
    · exact He.free_ok X G (c.fact 45 (f := .free "str") rfl)
    · exact He.free_ok X G (c.fact 46 (f := .free "tuple") rfl)
    · exact He.free_ok X G (c.fact 47 (f := .free "bool") rfl)
    · exact He.free_ok X G (c.fact 48 (f := .free "list") rfl)
    · exact He.free_ok X G (c.fact 49 (f := .free "len") rfl)
    · exact He.free_ok X G (c.fact 50 (f := .free "all") rfl)
    · exact He.free_ok X G (c.fact 51 (f := .free "any") rfl)
    · exact He.free_ok X G (c.fact 52 (f := .free "sum") rfl)
    · exact He.free_ok X G (c.fact 53 (f := .free "abs") rfl)
    · exact He.free_ok X G (c.fact 54 (f := .free "max") rfl)
    · exact He.free_ok X G (c.fact 55 (f := .free "min") rfl)
    · exact He.free_ok X G (c.fact 56 (f := .free "ord") rfl)
    · exact He.free_ok X G (c.fact 57 (f := .free "sorted") rfl)
abbrev hk : PySem.W.Hook := hookE 4 fa fn exC tbs
def ob (s : PySem.W.SharedT) : AlE := obsE 4 fa fn exC tbs (HandSHeadRun.getT s)
theorem ob_eq (s : PySem.W.SharedT) : ob s = hk.obs s.abs := obsE_eq (HandSHeadRun.getT_eq s)
def loose : List PySem.Str := ("statements_in") :: ("proc_named") :: ("assigned_in") :: ("passed_on") :: ("moving_table") :: ("variable_of") :: ("moving_items") :: ("moving_of") :: ("inputs_of_proc") :: ("states_of_proc") :: ("outcomes_of_proc") :: ("inputs_of") :: ("states_of") :: ("outcomes_of") :: ("changed_in") :: ("passed_to") :: ("touched_table") :: ("touched_of") :: ("_law_start") :: ("_law_draw") :: ("_law_one_of") :: ("_law_shuffled") :: ("_law_words") :: ("_law_is_int") :: ("_law_same") :: ("_law_key") :: ("_law_statements") :: ("_law_moves") :: ("_law_states") :: ("_law_outcomes") :: ("_law_proc") :: ("_law_wild_head") :: ("_law_wild_value") :: ("_law_wild_call") :: ("_law_wild_test") :: ("_law_wild_statement") :: ("_law_wild_block") :: ("_law_wild_core") :: ("_law_touches") :: ("CHANGING") :: []
theorem run_top (w : World) : HandSHeadRun.RunEq (PySem.W.OpenLaw.row PySem.Challenge.rw_tellsnomore_k34_names_of_procedures) (PySem.W.view (PySem.W.OpenLaw.row PySem.Challenge.rw_tellsnomore_k34_names_of_procedures).prog [43]) hk ob 2000 loose w :=
  PySem.W.byRow2 "special-get-raises" (P := fun w => HandSHeadRun.RunEq (PySem.W.OpenLaw.row PySem.Challenge.rw_tellsnomore_k34_names_of_procedures) (PySem.W.view (PySem.W.OpenLaw.row PySem.Challenge.rw_tellsnomore_k34_names_of_procedures).prog [43]) hk ob 2000 loose w) (fun w os => by kernel_rfl) (fun w os => by kernel_rfl) w
theorem facts {P : Program} {w : World} {K : PySem.W.Frag} {h : Heap} {mg : PySem.Str → Option Value} {f : Addr} (X : K.In h) (G : h.Ns mainGlobals mg) (hfa : mg ("law" : PySem.Str) = some (.ref f)) (c : He.SaysD fa fn K) (cx : exC K = true) (cd : TbOk K w) :
    ∃ fd : FuncData, (∀ (s : Shared) (v : Value), BindsTo s fd ⟨[v], []⟩ [("script", v)]) ∧ ∀ base : Heap, K.In base → base.Ns mainGlobals mg → FnOk P w K mg base (L2N.CX P w) lvl f fd ["script"] (spW K (fun _ _ _ _ => False) (run prog lvl) flaw 1) := by
  obtain ⟨fd, F⟩ := c.def_ 39 (d := dd_law) rfl
  have e := hfa.symm.trans (He.glo_ok X G (c.fact 39 (f := .glo "law") rfl))
  cases e
  have b := FunD.bindsA (ps := ["script"]) F fun _ _ _ _ _ _ us hl => match us, hl with | [_], _ => rfl
  refine ⟨fd, fun s v => b s [v] rfl, fun base _ _ => ?_⟩
  exact fun_ok (lk X G c cx cd) P base _ lvl flaw "law" 1 _ fd ["script"] ⟨⟨dlaw, _, _, _, _, ["script", "state", "turn", "core", "moves", "touches", "p", "due", "item", "kind", "x"], rfl, rfl, F, sc_law, rfl, ag_law⟩, rfl, FunD.bindsN (ps := ["script"]) F fun _ _ _ _ _ _ us hl => match us, hl with | [_], _ => rfl, hfa⟩
end TN
open PySem PySem.W PySem.Calls PyProof.Rows
theorem PySem.Challenge.cw_tellsnomore_k34_names_of_procedures_holds : PySem.Challenge.rw_tellsnomore_k34_names_of_procedures.Holds := by
  w_on; o_law
  refine HandSHeadRun.head_any (r := (OpenLaw.row PySem.Challenge.rw_tellsnomore_k34_names_of_procedures)) (q := view (OpenLaw.row PySem.Challenge.rw_tellsnomore_k34_names_of_procedures).prog [43]) (H := TN.hk) (ob := TN.ob) (M := 2000) (loose := TN.loose) (d := HandSHeadRun.topDef (OpenLaw.row PySem.Challenge.rw_tellsnomore_k34_names_of_procedures).prog 43) (kwd := []) TN.ob_eq
    (by kernel_rfl) (fun s => by kernel_rfl) TN.run_top (by kernel_rfl) (by kernel_rfl) (by kernel_rfl) (by rfl) (by first | assumption | decide +kernel) (by decide +kernel) ⟨rfl, rfl, rfl, rfl, rfl, by decide +kernel⟩ ?hw ?hc
  case hw => w_witness2
  case hc =>
    refine TN.walk_w (l := PySem.Challenge.rw_tellsnomore_k34_names_of_procedures) (n := 63) (k := TN.lvl) (x := "script") rfl (by decide) (by kernel_rfl) ⟨rfl, by decide, by decide⟩ ?F
    intro w mg fa h Y G hmg0
    obtain ⟨K, KX, c, cx, cd⟩ := Y
    have hmg : mg ("law" : PySem.Str) = some (.ref fa) := by
      have e : (HandSHeadRun.topDef (OpenLaw.row PySem.Challenge.rw_tellsnomore_k34_names_of_procedures).prog 43).name = ("law" : PySem.Str) := by kernel_rfl
      rw [← e]
      exact hmg0
    obtain ⟨fd, hb, hF⟩ := TN.facts (P := PySem.Challenge.rw_tellsnomore_k34_names_of_procedures.prog) (w := w) KX G hmg c cx cd
    exact ⟨K, fd, _, KX, hb, fun H a ns hl _ hS => TN.law_sp hS (TN.law_true ns), hF⟩
