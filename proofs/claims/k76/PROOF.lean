import PyProof.Rows.All
import Wide.All
import OpenK.AllK
import Wide.FinOn
import HandS.ForMost
import HandS.IsInst
import HandS.Wide
import HandS.Walk
import HandS.TupAny
import HandS.Deep
import HandS.SortInts
import HandS.RaiseMore
import HandS.Star
import KE.GoesEnum
import HandS.Zip
import HandS.Conv
import HandS.Style
import HandS.Lambda
import HandS.Defaults
import HandS.Ends
import HandS.HeadHook2
import HandS.HeadEnd
import KE.KStateDown
import Lean
import HandS.Head0
import HandS.Head1
import HandS.Head2
import HandS.HeadHook1
import PySem.Challenge.RW_sidestaken_k76_whole_points_fair_from_th
set_option Elab.async false
set_option linter.all false
set_option maxRecDepth 100000
set_option maxHeartbeats 0
/-! MP1: own values, own syntax, the evaluator. -/
namespace MP
open PySem (Str PyData sizeLine)
abbrev Key := L2.Key

/-! ### values -/
inductive W where
  | non | bl (b : Bool) | int (i : Int) | str (s : Str)
  | lst (ws : List W) | tup (ws : List W) | dct (ks : List Key) (vs : List W)
  | cell (n : Nat) | scr (ns : List Int)
deriving Inhabited
inductive Cell where
  | lst (ws : List W) | dct (ks : List Key) (vs : List W) | dead (w : W)
abbrev Store := List Cell
abbrev Slots := List (Option W)
inductive Res (α : Type) where
  | err | ok (a : α) (st : Store) | exc (c : Nat) (w : W) (st : Store)
abbrev M (α : Type) := Store → Res α
def M.ret {α : Type} (a : α) : M α := fun st => .ok a st
def M.fail {α : Type} : M α := fun _ => .err
def M.bind {α β : Type} (m : M α) (f : α → M β) : M β := fun st => match m st with
  | .ok a st' => f a st'
  | .exc c w st' => .exc c w st'
  | .err => .err
def M.opt {α : Type} (o : Option α) : M α := fun st => match o with | some a => .ok a st | none => .err
instance : Monad M where
  pure := M.ret
  bind := M.bind

/-! ### syntax -/
inductive Op where | add | sub | mul | fdiv | mod | pow
deriving DecidableEq
inductive Cmp where | eq | ne | lt | le | gt | ge | isn | notn | inn | notin
deriving DecidableEq
inductive Ty where | bool | int | str | list | tuple | dict
deriving DecidableEq
inductive Prim where
  | len | abs | int1 | all | any | sum | max1 | min1 | max2 | min2 | sorted | list | tuple | dict | repr | str
deriving DecidableEq
inductive Mth where
  | append | extend | pop | popAt | get | index | count | copy | remove | update | join | split | clear
deriving DecidableEq
mutual
inductive E where
  | var (i : Nat) | non | bl (b : Bool) | int (n : Int) | str (s : Str)
  | lst (c : Bool) (es : Es) | tup (es : Es) | dct (c : Bool) (ks vs : Es)
  | bin (c : Bool) (op : Op) (a b : E) | neg (a : E)
  | not (a : E) | and (a b : E) | or (a b : E)
  | cmp (op : Cmp) (a b : E) | chain (o1 o2 : Cmp) (a b c : E)
  | ife (c a b : E)
  | isi (t : Ty) (e : E) | isiT (ts : List Ty) (e : E)
  | call (f : Nat) (es : Es) (ks : List Nat)
  | callK (f : Nat) (es kes : Es) (ks : List Nat)
  | bi (c : Bool) (p : Prim) (es : Es)
  | mt (m : Mth) (o : E) (es : Es)
  | sub (a i : E) | slice (c : Bool) (a : E) (lo hi : Oe)
  | lrange1 (c : Bool) (a : E) | lrange2 (c : Bool) (a b : E)
  | lc (c : Bool) (own : List Nat) (t : Tg) (it : It) (cond : Oe) (elt : E)
  | dc (c : Bool) (own : List Nat) (t : Tg) (it : It) (cond : Oe) (k v : E)
  | fz (e : E)
  | never
inductive Es where
  | nil | cons (e : E) (es : Es) | star (e : E) (es : Es)
inductive Oe where
  | none | some (e : E)
inductive Tg where
  | name (i : Nat) | tup (ts : Tgs) | sub (o i : E)
inductive Tgs where
  | nil | cons (t : Tg) (ts : Tgs)
inductive It where
  | seq (e : E) | range (es : Es) | enum (e : E) | enumK (e n : E) | zip (a b : E) | items (e : E)
end
mutual
inductive S where
  | asg (t : Tg) (e : E) | expr (e : E) | ret (e : E) | retN | pass | brk | cont
  | ife (c : E) (a b : Ss) | while (c : E) (b : Ss) | for (t : Tg) (it : It) (b : Ss)
  | raise (c : Nat) (e : E) | never
inductive Ss where
  | nil | cons (s : S) (ss : Ss)
end

def Tgs.len : Tgs → Nat
  | .nil => 0
  | .cons _ ts => ts.len + 1

/-! ### reading values -/
def asLst (st : Store) : W → Option (List W)
  | .lst ws => some ws
  | .cell n => match st[n]? with
    | some (.lst ws) => some ws
    | some (.dead (.lst ws)) => some ws
    | _ => none
  | _ => none
def asTup : W → Option (List W)
  | .tup ws => some ws
  | _ => none
def asSeq (st : Store) (w : W) : Option (List W) := match w with
  | .tup ws => some ws
  | .scr ns => some (ns.map .int)
  | w => asLst st w
def asDct (st : Store) : W → Option (List Key × List W)
  | .dct ks vs => some (ks, vs)
  | .cell n => match st[n]? with
    | some (.dct ks vs) => some (ks, vs)
    | some (.dead (.dct ks vs)) => some (ks, vs)
    | _ => none
  | _ => none
def asInt : W → Option Int
  | .int i => some i
  | _ => none
def asBl : W → Option Bool
  | .bl b => some b
  | _ => none
def asStr : W → Option Str
  | .str s => some s
  | _ => none
def asKey : W → Option Key
  | .int i => some (.inl i)
  | .str s => some (.inr s)
  | _ => none
def keyW : Key → W
  | .inl i => .int i
  | .inr s => .str s
def allOpt {α β : Type} (f : α → Option β) : List α → Option (List β)
  | [] => some []
  | a :: r => match f a with
    | some b => (match allOpt f r with
      | some bs => some (b :: bs)
      | none => none)
    | none => none
/-- data of any depth below n, no dicts -/
def data (st : Store) : Nat → W → Option PyData
  | _, .non => some .none
  | _, .bl b => some (.bool b)
  | _, .int i => some (.int i)
  | _, .str s => some (.str s)
  | 0, _ => none
  | n + 1, .lst ws => (allOpt (data st n) ws).map .list
  | n + 1, .tup ws => (allOpt (data st n) ws).map .tuple
  | n + 1, .cell k => match st[k]? with
    | some (.lst ws) => (allOpt (data st n) ws).map .list
    | some (.dead (.lst ws)) => (allOpt (data st n) ws).map .list
    | _ => none
  | _, _ => none
def LIM : Nat := 1000000
def isTy (st : Store) (t : Ty) : W → Option Bool
  | .non => some false
  | .bl _ => some (match t with | .bool => true | .int => true | _ => false)
  | .int _ => some (match t with | .int => true | _ => false)
  | .str _ => some (match t with | .str => true | _ => false)
  | .lst _ => some (match t with | .list => true | _ => false)
  | .tup _ => some (match t with | .tuple => true | _ => false)
  | .dct _ _ => some (match t with | .dict => true | _ => false)
  | .scr _ => some (match t with | .list => true | _ => false)
  | .cell n => match st[n]? with
    | some (.lst _) => some (match t with | .list => true | _ => false)
    | some (.dct _ _) => some (match t with | .dict => true | _ => false)
    | some (.dead (.lst _)) => some (match t with | .list => true | _ => false)
    | some (.dead (.dct _ _)) => some (match t with | .dict => true | _ => false)
    | _ => none
def isTys (st : Store) : List Ty → W → Option Bool
  | [], _ => some false
  | t :: ts, w => match isTy st t w with
    | some true => some true
    | some false => isTys st ts w
    | none => none

/-! ### operations by values -/
def mulOk (i j : Int) : Bool := decide (i.natAbs < 2 ^ 64) || decide (j.natAbs < 2 ^ 64) || decide (i.natAbs.log2 + j.natAbs.log2 < 1000000)
def iBin : Op → Int → Int → Option Int
  | .add, i, j => some (i + j)
  | .sub, i, j => some (i - j)
  | .mul, i, j => if mulOk i j then some (i * j) else none
  | .fdiv, i, j => if 0 < j ∧ j.natAbs.log2 < 9000 then some (i / j) else none
  | .mod, i, j => if 0 < j then some (i % j) else none
  | .pow, i, j => if 0 ≤ j ∧ j ≤ 1000000 ∧ i.natAbs < 2 ^ 64 then some (i ^ j.toNat) else none
def binW (st : Store) (op : Op) (a b : W) : Option W := match a, b with
  | .int i, .int j => (iBin op i j).map .int
  | .str x, .str y => match op with
    | .add => if x.length + y.length ≤ LIM then some (.str (x ++ y)) else none
    | _ => none
  | .tup xs, .tup ys => match op with
    | .add => if xs.length + ys.length ≤ LIM then some (.tup (xs ++ ys)) else none
    | _ => none
  | a, .int j => match op with
    | .mul => (asLst st a).bind fun xs => if decide (-(2 ^ 62) ≤ j) && decide (j < 2 ^ 62) && decide (xs.length * j.toNat ≤ LIM) then some (.lst (List.replicate j.toNat xs).flatten) else none
    | _ => none
  | a, b => match op with
    | .add => (asLst st a).bind fun xs => (asLst st b).bind fun ys => if xs.length + ys.length ≤ LIM then some (.lst (xs ++ ys)) else none
    | _ => none
def DEPTH : Nat := 40
def eqW (st : Store) (a b : W) : Option Bool := match a, b with
  | .int i, .int j => some (decide (i = j))
  | .str x, .str y => some (decide (x = y))
  | .bl x, .bl y => some (decide (x = y))
  | .non, .non => some true
  | a, b => (data st DEPTH a).bind fun d => (data st DEPTH b).bind fun e => if PySem.SeqAt.shaped d && PySem.SeqAt.shaped e then some (PyData.eqv d e) else none
def flatW : W → Bool
  | .non | .bl _ | .int _ | .str _ => true
  | _ => false
/-- == of flat values -/
def eqFlat : W → W → Bool
  | .non, .non => true
  | .bl a, .bl b => a == b
  | .bl a, .int b => (if a then 1 else 0) == b
  | .int a, .bl b => a == (if b then 1 else 0)
  | .int a, .int b => a == b
  | .str a, .str b => a == b
  | _, _ => false
def inW (st : Store) (x y : W) : Option Bool := match y with
  | .str b => (asStr x).map fun a => !(PySem.Builtin.Str.occurrences b a 0 b.length 1).isEmpty
  | y => match asSeq st y with
    | some ws => if flatW x && ws.all flatW then some (ws.any fun z => eqFlat z x) else (data st DEPTH x).bind fun d => (data st DEPTH y).bind fun e => match e with
      | .list ds => if PySem.SeqAt.shaped d && PySem.SeqAt.shaped (.list ds) then some (ds.any fun z => PyData.eqv z d) else none
      | _ => none
    | none => none
def cmpW (st : Store) (op : Cmp) (a b : W) : Option Bool := match op with
  | .eq => eqW st a b
  | .ne => (eqW st a b).map (!·)
  | .lt => (asInt a).bind fun i => (asInt b).map fun j => decide (i < j)
  | .le => (asInt a).bind fun i => (asInt b).map fun j => decide (i ≤ j)
  | .gt => (asInt a).bind fun i => (asInt b).map fun j => decide (j < i)
  | .ge => (asInt a).bind fun i => (asInt b).map fun j => decide (j ≤ i)
  | .isn => match b with | .non => some (match a with | .non => true | _ => false) | _ => none
  | .notn => match b with | .non => some (match a with | .non => false | _ => true) | _ => none
  | .inn => inW st a b
  | .notin => (inW st a b).map (!·)
def getKey {α : Type} (k : Key) : List Key → List α → Option α
  | k' :: ks, v :: vs => if k' = k then some v else getKey k ks vs
  | _, _ => none
def repl {α : Type} (k : Key) (x : α) : List Key → List α → List α
  | k' :: ks, v :: vs => (if k' = k then x else v) :: repl k x ks vs
  | _, _ => []
def putKey {α : Type} (k : Key) (x : α) (ks : List Key) (vs : List α) : List Key × List α :=
  if ks.any (fun k' => decide (k' = k)) then (ks, repl k x ks vs) else (ks ++ [k], vs ++ [x])
def mergeKs {α : Type} : List Key → List α → List Key × List α → List Key × List α
  | k :: ks, v :: vs, acc => mergeKs ks vs (putKey k v acc.1 acc.2)
  | _, _, acc => acc
def subW (st : Store) (a i : W) : Option W := match a, i with
  | .str z, .int j => if z.length ≤ LIM then (L2.atI z.cps.toList j).map fun c => .str ⟨#[c]⟩ else none
  | a, .int j => match asSeq st a with
    | some ws => L2.atI ws j
    | none => (asDct st a).bind fun d => getKey (.inl j) d.1 d.2
  | a, .str x => (asDct st a).bind fun d => getKey (.inr x) d.1 d.2
  | _, _ => none
def cutW {α : Type} (xs : List α) (lo hi : Option Int) : List α := (xs.drop (HT.sIx xs.length 0 lo)).take (HT.sIx xs.length xs.length hi - HT.sIx xs.length 0 lo)
def sliceW (st : Store) (a : W) (lo hi : Option Int) : Option W := match a with
  | .tup ws => some (.tup (cutW ws lo hi))
  | a => (asLst st a).map fun ws => .lst (cutW ws lo hi)
def rangeOf (ws : List W) : Option (Int × Int × Nat) := match ws with
  | [.int j] => if decide (-(2 ^ 40) < j) && decide (j < 2 ^ 40) then some (0, 1, j.toNat) else none
  | [.int i, .int j] => if decide (-(2 ^ 40) < i) && decide (i < 2 ^ 40) && decide (j < 2 ^ 40) && decide (-(2 ^ 40) < j) then some (i, 1, (j - i).toNat) else none
  | [.int i, .int j, .int c] => if decide (-(2 ^ 40) < i) && decide (i < 2 ^ 40) && decide (j < 2 ^ 40) && decide (-(2 ^ 40) < j) && decide (c = -1) then some (i, -1, (i - j).toNat) else none
  | _ => none
/-- max, min of ints -/
def maxI : List Int → Option Int
  | [] => none
  | i :: r => some (r.foldl (fun a b => if a < b then b else a) i)
def minI : List Int → Option Int
  | [] => none
  | i :: r => some (r.foldl (fun a b => if b < a then b else a) i)
def insI (i : Int) : List Int → List Int
  | [] => [i]
  | j :: r => if j ≤ i then j :: insI i r else i :: j :: r
def sortI (l : List Int) : List Int := l.foldl (fun acc i => insI i acc) []
def primW (st : Store) (p : Prim) (ws : List W) : Option W := match p, ws with
  | .len, [.str s] => if s.length ≤ LIM then some (.int s.length) else none
  | .len, [w] => match asSeq st w with
    | some xs => some (.int xs.length)
    | none => (asDct st w).map fun d => .int d.1.length
  | .abs, [.int i] => some (.int (if i < 0 then -i else i))
  | .int1, [.int i] => some (.int i)
  | .all, [w] => (asLst st w).bind fun xs => (allOpt asBl xs).map fun bs => .bl (bs.all id)
  | .any, [w] => (asLst st w).bind fun xs => (allOpt asBl xs).map fun bs => .bl (bs.any id)
  | .sum, [w] => (asLst st w).bind fun xs => (allOpt asInt xs).map fun is => .int is.sum
  | .max1, [w] => (asLst st w).bind fun xs => (allOpt asInt xs).bind fun is => (maxI is).map .int
  | .min1, [w] => (asLst st w).bind fun xs => (allOpt asInt xs).bind fun is => (minI is).map .int
  | .max2, [.int i, .int j] => some (.int (if j > i then j else i))
  | .min2, [.int i, .int j] => some (.int (if j < i then j else i))
  | .sorted, [w] => (asLst st w).bind fun xs => (allOpt asInt xs).map fun is => .lst ((sortI is).map .int)
  | .list, [w] => (asSeq st w).map .lst
  | .tuple, [w] => (asSeq st w).map .tup
  | .repr, [w] => (data st DEPTH w).bind fun d => if PyData.showable d && decide (d.depth ≤ 64) && decide (d.shown.length ≤ LIM) then some (.str d.shown) else none
  | .str, [.int i] => if i.natAbs.log2 < 1920 then some (.str (toString i)) else none
  | .str, [.str s] => some (.str s)
  | _, _ => none
def mthTy : Mth → Ty
  | .get | .update => .dict
  | .join | .split => .str
  | _ => .list
def mthW (m : Mth) (o : W) (ws : List W) : M W := fun st => match m, o, ws with
  | .append, .cell n, [x] => match st[n]? with
    | some (.lst xs) => if xs.length < LIM then .ok .non (st.set n (.lst (xs ++ [x]))) else .err
    | _ => .err
  | .extend, .cell n, [y] => match st[n]? with
    | some (.lst xs) => match asLst st y with
      | some ys => if xs.length + ys.length ≤ LIM then .ok .non (st.set n (.lst (xs ++ ys))) else .err
      | none => .err
    | _ => .err
  | .pop, .cell n, [] => match st[n]? with
    | some (.lst xs) => match xs[xs.length - 1]? with
      | some x => .ok x (st.set n (.lst xs.dropLast))
      | none => .err
    | _ => .err
  | .popAt, .cell n, [.int i] => match st[n]? with
    | some (.lst xs) => if decide (-(2 ^ 63) ≤ i) && decide (i < 2 ^ 63) then (match L2.ixN xs.length i with
      | some k => match xs[k]? with
        | some x => .ok x (st.set n (.lst (xs.eraseIdx k)))
        | none => .err
      | none => .err) else .err
    | _ => .err
  | _, _, _ => .err
def setW (o i v : W) : M Unit := fun st => match o, i with
  | .cell n, .int k => match st[n]? with
    | some (.lst xs) => match L2.ixN xs.length k with
      | some j => .ok () (st.set n (.lst (xs.set j v)))
      | none => .err
    | some (.dct ks vs) => if ks.length < LIM then .ok () (st.set n (.dct (putKey (.inl k) v ks vs).1 (putKey (.inl k) v ks vs).2)) else .err
    | _ => .err
  | .cell n, .str x => match st[n]? with
    | some (.dct ks vs) => if ks.length < LIM then .ok () (st.set n (.dct (putKey (.inr x) v ks vs).1 (putKey (.inr x) v ks vs).2)) else .err
    | _ => .err
  | _, _ => .err
/-- a cell is made a tree -/
def freeze (w : W) : M W := fun st => match w with
  | .cell n => match st[n]? with
    | some (.lst ws) => .ok (.lst ws) (st.set n (.dead (.lst ws)))
    | some (.dct _ _) => .err
    | some (.dead w) => .ok w st
    | none => .err
  | w => .ok w st
/-- a new list: a cell, or a tree -/
def mkLst (c : Bool) (ws : List W) : M W := fun st => match c with
  | true => .ok (.cell st.length) (st ++ [.lst ws])
  | false => .ok (.lst ws) st
/-- what an operation that lays a new list gives -/
def fin (c : Bool) (w : W) : M W := match c with
  | true => (match w with
    | .lst ws => mkLst true ws
    | w => M.ret w)
  | false => M.ret w
def mkDct (c : Bool) (ks : List Key) (vs : List W) : M W := fun st => match c with
  | true => .ok (.cell st.length) (st ++ [.dct ks vs])
  | false => .ok (.dct ks vs) st

/-! ### what is walked -/
def isTupW : W → Bool
  | .tup _ => true
  | _ => false
inductive Src1 where
  | vals (ws : List W) | live (n len : Nat)
inductive Src where
  | one (s : Src1) | rng (lo c : Int) (n : Nat) | enum (s : Src1) (k : Int) | zip (s t : Src1)
def src1 (st : Store) (w : W) : Option Src1 := match w with
  | .cell n => match st[n]? with
    | some (.lst ws) => some (.live n ws.length)
    | some (.dead (.lst ws)) => some (.vals ws)
    | _ => none
  | .lst ws => some (.vals ws)
  | .tup ws => some (.vals ws)
  | .scr ns => some (.vals (ns.map .int))
  | _ => none
def Src1.len : Src1 → Nat
  | .vals ws => ws.length
  | .live _ m => m
/-- the i-th, the list being as long as it was -/
def Src1.at (st : Store) (i : Nat) : Src1 → Option W
  | .vals ws => ws[i]?
  | .live n m => match st[n]? with
    | some (.lst ws) => if ws.length = m then ws[i]? else none
    | _ => none
def Src1.fin (st : Store) : Src1 → Bool
  | .vals _ => true
  | .live n m => match st[n]? with
    | some (.lst ws) => decide (ws.length = m)
    | _ => false
def Src.len : Src → Nat
  | .one s => s.len
  | .rng _ _ n => n
  | .enum s _ => s.len
  | .zip s t => min s.len t.len
def Src.at (st : Store) (i : Nat) : Src → Option W
  | .one s => s.at st i
  | .rng lo c n => if i < n then some (.int (lo + (i : Nat) * c)) else none
  | .enum s k => (s.at st i).map fun x => .tup [.int (k + (i : Nat)), x]
  | .zip s t => (s.at st i).bind fun x => (t.at st i).map fun y => .tup [x, y]
def Src.fin (st : Store) : Src → Bool
  | .one s => s.fin st
  | .rng _ _ _ => true
  | .enum s _ => s.fin st
  | .zip s t => s.fin st && t.fin st

/-! ### the evaluator -/
/-- the ints from lo on -/
def rgW (lo : Int) (n : Nat) : List W := (List.range n).map fun i => .int (lo + (i : Nat))
def lcLoop (src : Src) (step : W → M (Option W)) : Nat → Nat → List W → M (List W)
  | 0, _, acc => fun st => if src.fin st then .ok acc st else .err
  | r + 1, i, acc => fun st => match src.at st i with
    | some x => M.bind (step x) (fun y => match y with
      | some z => lcLoop src step r (i + 1) (acc ++ [z])
      | none => lcLoop src step r (i + 1) acc) st
    | none => .err
/-- no exception leaves -/
def quiet {α : Type} (m : M α) : M α := fun st => match m st with
  | .ok a st' => .ok a st'
  | _ => .err
/-- a turn of a comprehension -/
def stepW (a : M Slots) (tst : Slots → M Bool) (elt : Slots → M W) : M (Option W) := M.bind a fun sl2 => M.bind (tst sl2) fun b => match b with
  | true => M.bind (elt sl2) fun y => M.ret (some y)
  | false => M.ret none
def slotSet (sl : Slots) (i : Nat) (w : W) : Slots := sl.set i (some w)
def wipeW (sl : Slots) : List Nat → Slots
  | [] => sl
  | v :: vs => (wipeW sl vs).set v none
section
variable (C : Nat → List W → M W)
mutual
def evE : E → Slots → M W
  | .var i, sl => fun st => match sl[i]? with
    | some (some w) => .ok w st
    | _ => .err
  | .non, _ => M.ret .non
  | .bl b, _ => M.ret (.bl b)
  | .int n, _ => M.ret (.int n)
  | .str s, _ => M.ret (.str s)
  | .lst c es, sl => M.bind (evEs es sl) fun ws st => if ws.length ≤ LIM then mkLst c ws st else .err
  | .tup es, sl => M.bind (evEs es sl) fun ws st => if ws.length ≤ LIM then .ok (.tup ws) st else .err
  | .dct c ks vs, sl => M.fail
  | .bin c op a b, sl => M.bind (evE a sl) fun x => M.bind (evE b sl) fun y => M.bind (fun st => M.opt (binW st op x y) st) (fin c)
  | .neg a, sl => M.bind (evE a sl) fun x => M.opt ((asInt x).map fun i => .int (-i))
  | .not a, sl => M.bind (evE a sl) fun x => M.opt ((asBl x).map fun b => .bl (!b))
  | .and a b, sl => M.bind (evE a sl) fun x => match x with
    | .bl true => evE b sl
    | .bl false => M.ret (.bl false)
    | _ => M.fail
  | .or a b, sl => M.bind (evE a sl) fun x => match x with
    | .bl true => M.ret (.bl true)
    | .bl false => evE b sl
    | _ => M.fail
  | .cmp op a b, sl => M.bind (evE a sl) fun x => M.bind (evE b sl) fun y st => M.opt ((cmpW st op x y).map .bl) st
  | .chain o1 o2 a b c, sl => M.bind (evE a sl) fun x => M.bind (evE b sl) fun y => M.bind (fun st => M.opt (cmpW st o1 x y) st) fun t => match t with
    | true => M.bind (evE c sl) fun z st => M.opt ((cmpW st o2 y z).map .bl) st
    | false => M.ret (.bl false)
  | .ife c a b, sl => M.bind (evE c sl) fun x => match x with
    | .bl true => evE a sl
    | .bl false => evE b sl
    | _ => M.fail
  | .isi t e, sl => M.bind (evE e sl) fun x st => M.opt ((isTy st t x).map .bl) st
  | .isiT ts e, sl => M.bind (evE e sl) fun x st => M.opt ((isTys st ts x).map .bl) st
  | .call f es ks, sl => M.bind (evEs es sl) fun ws => match ks with
    | [] => C f ws
    | _ => M.bind (M.opt (allOpt (fun i => ws[i]?) ks)) fun vs => C f vs
  | .callK f es kes ks, sl => M.bind (evEs es sl) fun ws => M.bind (evEs kes sl) fun zs => M.bind (M.opt (allOpt (fun i => (ws ++ zs)[i]?) ks)) fun vs => C f vs
  | .bi c p es, sl => M.bind (evEs es sl) fun ws => M.bind (fun st => M.opt (primW st p ws) st) (fin c)
  | .mt m o es, sl => M.bind (evE o sl) fun x => M.bind (fun st => M.opt (isTy st (mthTy m) x) st) fun t => match t with
    | true => M.bind (evEs es sl) fun ws => mthW m x ws
    | false => M.fail
  | .sub a i, sl => M.bind (evE a sl) fun x => M.bind (evE i sl) fun y st => M.opt (subW st x y) st
  | .slice c a lo hi, sl => M.bind (evE a sl) fun x => M.bind (evO lo sl) fun l => M.bind (evO hi sl) fun h => M.bind (fun st => M.opt (sliceW st x l h) st) (fin c)
  | .lrange1 c a, sl => M.bind (evE a sl) fun x => match x with
    | .int j => if decide (-(2 ^ 40) < j) && decide (j.toNat ≤ LIM) then mkLst c (rgW 0 j.toNat) else M.fail
    | _ => M.fail
  | .lrange2 c a b, sl => M.bind (evE a sl) fun x => M.bind (evE b sl) fun y => match x, y with
    | .int i, .int j => if decide (-(2 ^ 40) < i) && decide (i < 2 ^ 40) && decide (-(2 ^ 40) < j) && decide (j < 2 ^ 40) && decide ((j - i).toNat ≤ LIM) then mkLst c (rgW i (j - i).toNat) else M.fail
    | _, _ => M.fail
  | .lc c own t it cond elt, sl => M.bind (evIt it sl) fun src => if src.len ≤ LIM then M.bind (quiet (lcLoop src (fun x => stepW (asgT t x (wipeW sl own)) (evC cond) (evE elt)) src.len 0 [])) fun ws => mkLst c ws else M.fail
  | .dc c own t it cond k v, sl => M.fail
  | .fz e, sl => M.bind (evE e sl) freeze
  | .never, _ => M.fail
def evEs : Es → Slots → M (List W)
  | .nil, _ => M.ret []
  | .cons e es, sl => M.bind (evE e sl) fun x => M.bind (evEs es sl) fun xs => M.ret (x :: xs)
  | .star e es, sl => M.bind (evE e sl) fun x => M.bind (fun st => M.opt (asSeq st x) st) fun ys => M.bind (evEs es sl) fun xs => M.ret (ys ++ xs)
def evO : Oe → Slots → M (Option Int)
  | .none, _ => M.ret none
  | .some e, sl => M.bind (evE e sl) fun x => M.bind (M.opt (asInt x)) fun i => M.ret (some i)
def evC : Oe → Slots → M Bool
  | .none, _ => M.ret true
  | .some e, sl => M.bind (evE e sl) fun x => M.opt (asBl x)
def evIt : It → Slots → M Src
  | .seq e, sl => M.bind (evE e sl) fun x st => M.opt ((src1 st x).map .one) st
  | .range es, sl => M.bind (evEs es sl) fun ws => M.opt ((rangeOf ws).map fun r => .rng r.1 r.2.1 r.2.2)
  | .enum e, sl => M.bind (evE e sl) fun x st => M.opt ((src1 st x).map fun s => .enum s 0) st
  | .enumK e o, sl => M.bind (evE e sl) fun x => M.bind (evE o sl) fun y => match y with
    | .int i => fun st => if decide (-(2 ^ 40) < i) && decide (i < 2 ^ 40) then M.opt ((src1 st x).map fun s => .enum s i) st else .err
    | _ => M.fail
  | .zip a b, sl => M.bind (evE a sl) fun x => M.bind (evE b sl) fun y st => if isTupW x == isTupW y then M.opt ((src1 st x).bind fun s => (src1 st y).map fun t => .zip s t) st else .err
  | .items e, sl => M.fail
def asgT : Tg → W → Slots → M Slots
  | .name i, w, sl => M.ret (slotSet sl i w)
  | .tup ts, w, sl => fun st => match asSeq st w with
    | some ws => if ws.length = ts.len then asgTs ts ws sl st else .err
    | none => .err
  | .sub o i, w, sl => M.bind (evE o sl) fun x => M.bind (evE i sl) fun y => M.bind (setW x y w) fun _ => M.ret sl
def asgTs : Tgs → List W → Slots → M Slots
  | .nil, [], sl => M.ret sl
  | .cons t ts, w :: ws, sl => M.bind (asgT t w sl) fun sl2 => asgTs ts ws sl2
  | _, _, _ => M.fail
end
inductive Flow where
  | nx (sl : Slots) | rt (w : W) | bk (sl : Slots) | ct (sl : Slots)
/-- statements: an exception leaves with the slots as they were -/
inductive ResS where
  | err | ok (f : Flow) (st : Store) | exc (c : Nat) (w : W) (sl : Slots) (st : Store)
abbrev MS := Store → ResS
def ofE {α : Type} (m : M α) (sl : Slots) (f : α → MS) : MS := fun st => match m st with
  | .ok a st' => f a st'
  | .exc c w st' => .exc c w sl st'
  | .err => .err
def thenS (m : MS) (f : Slots → MS) : MS := fun st => match m st with
  | .ok (.nx sl) st' => f sl st'
  | r => r
def whileL (c : Slots → M W) (b : Slots → MS) : Nat → Slots → MS
  | 0, _ => fun _ => .err
  | n + 1, sl => ofE (c sl) sl fun x => match x with
    | .bl true => fun st => match b sl st with
      | .ok (.nx sl') st' => whileL c b n sl' st'
      | .ok (.ct sl') st' => whileL c b n sl' st'
      | .ok (.bk sl') st' => .ok (.nx sl') st'
      | r => r
    | .bl false => fun st => .ok (.nx sl) st
    | _ => fun _ => .err
def forL (src : Src) (g : W → Slots → M Slots) (b : Slots → MS) : Nat → Nat → Slots → MS
  | 0, _, sl => fun st => if src.fin st then .ok (.nx sl) st else .err
  | r + 1, i, sl => fun st => match src.at st i with
    | some x => ofE (quiet (g x sl)) sl (fun sl1 st1 => match b sl1 st1 with
      | .ok (.nx sl') st' => forL src g b r (i + 1) sl' st'
      | .ok (.ct sl') st' => forL src g b r (i + 1) sl' st'
      | .ok (.bk sl') st' => .ok (.nx sl') st'
      | r => r) st
    | none => .err
variable (wf : Nat)
mutual
def evS : S → Slots → MS
  | .asg t e, sl => ofE (evE C e sl) sl fun w => ofE (quiet (asgT C t w sl)) sl fun sl' st => .ok (.nx sl') st
  | .expr e, sl => ofE (evE C e sl) sl fun _ st => .ok (.nx sl) st
  | .ret e, sl => ofE (evE C e sl) sl fun w st => .ok (.rt w) st
  | .retN, _ => fun st => .ok (.rt .non) st
  | .pass, sl => fun st => .ok (.nx sl) st
  | .brk, sl => fun st => .ok (.bk sl) st
  | .cont, sl => fun st => .ok (.ct sl) st
  | .ife c a b, sl => ofE (evE C c sl) sl fun x => match x with
    | .bl true => evSs a sl
    | .bl false => evSs b sl
    | _ => fun _ => .err
  | .while c b, sl => whileL (evE C c) (evSs b) wf sl
  | .for t it b, sl => ofE (evIt C it sl) sl fun src => forL src (asgT C t) (evSs b) src.len 0 sl
  | .raise c e, sl => ofE (evE C e sl) sl fun w st => .exc c w sl st
  | .never, _ => fun _ => .err
def evSs : Ss → Slots → MS
  | .nil, sl => fun st => .ok (.nx sl) st
  | .cons s ss, sl => thenS (evS s sl) (evSs ss)
end
end
/-- a def: its number, its name, its names by slot, how many parameters, its body -/
structure Fn where
  id : Nat
  name : Str
  N : List Str
  np : Nat
  body : Ss
def find (P : List Fn) (f : Nat) : Option Fn := P.find? fun d => d.id == f
def backR : ResS → Res W
  | .ok (.rt w) st => .ok w st
  | .ok (.nx _) st => .ok .non st
  | .ok _ _ => .err
  | .exc c w _ st => .exc c w st
  | .err => .err
def startW (n : Nat) (ws : List W) : Slots := ws.map some ++ List.replicate (n - ws.length) none
def callN (P : List Fn) (wf : Nat) : Nat → Nat → List W → M W
  | 0, _, _ => M.fail
  | k + 1, f, ws => fun st => match find P f with
    | some d => if ws.length = d.np then backR (evSs (callN P wf k) wf d.body (startW d.N.length ws) st) else .err
    | none => .err
end MP
/-! MP2: what the own values stand for on the abstract heap. -/
namespace MP
open PySem PySem.Spec PyProof.Rows L2
/-! ### worlds -/
structure Wd where
  ρ : List Addr
  F : Hp
  G : Hp
def Wd.Le (w w' : Wd) : Prop := (∀ (n : Nat) (a : Addr), w.ρ[n]? = some a → w'.ρ[n]? = some a) ∧ (∀ a o, w.F a = some o → w'.F a = some o) ∧ w'.G = w.G
theorem Wd.Le.refl (w : Wd) : w.Le w := ⟨fun _ _ h => h, fun _ _ h => h, rfl⟩
theorem Wd.Le.trans {a b c : Wd} (h : a.Le b) (h' : b.Le c) : a.Le c := ⟨fun n x q => h'.1 n x (h.1 n x q), fun n x q => h'.2.1 n x (h.2.1 n x q), h'.2.2.trans h.2.2⟩
variable (K : PySem.W.Frag)
mutual
inductive Rep (w : Wd) : V → W → Prop
  | non : Rep w .non .non
  | bl (b : Bool) : Rep w (.bl b) (.bl b)
  | int (i : Int) : Rep w (.int i) (.int i)
  | str (s : Str) : Rep w (.str s) (.str s)
  | lst {a : Addr} {xs : List V} {ws : List W} : w.F a = some (.lst xs) → xs.length ≤ sizeLine → Reps w xs ws → Rep w (.ref a) (.lst ws)
  | tup {a : Addr} {xs : List V} {ws : List W} : w.F a = some (.tup xs) → xs.length ≤ sizeLine → Reps w xs ws → Rep w (.ref a) (.tup ws)
  | dct {a : Addr} {o : Obj} {kvs : List (Key × V)} {vs : List W} : w.F a = some (.frz o (.dK kvs)) → kvs.length ≤ sizeLine → Reps w (kvs.map (·.2)) vs → Rep w (.ref a) (.dct (kvs.map (·.1)) vs)
  | cell {a : Addr} {n : Nat} : w.ρ[n]? = some a → Rep w (.ref a) (.cell n)
  | scr {a : Addr} {ns : List Int} : SqL K w.F a (ns.map V.int) → ns.length ≤ sizeLine → Rep w (.ref a) (.scr ns)
inductive Reps (w : Wd) : List V → List W → Prop
  | nil : Reps w [] []
  | cons {x : V} {y : W} {xs : List V} {ys : List W} : Rep w x y → Reps w xs ys → Reps w (x :: xs) (y :: ys)
end
variable {K}
theorem SqL.le {F F' : Hp} (h : ∀ a o, F a = some o → F' a = some o) {a : Addr} {xs : List V} (q : SqL K F a xs) : SqL K F' a xs := by
  rcases q with (q | ⟨o, q⟩) | q
  · exact .inl (.inl (h _ _ q))
  · exact .inl (.inr ⟨o, h _ _ q⟩)
  · exact .inr q
/-- trees and cells grow -/
def Wd.Gr (w w' : Wd) : Prop := (∀ (n : Nat) (a : Addr), w.ρ[n]? = some a → w'.ρ[n]? = some a) ∧ (∀ a o, w.F a = some o → w'.F a = some o)
theorem Wd.Gr.refl (w : Wd) : w.Gr w := ⟨fun _ _ h => h, fun _ _ h => h⟩
theorem Wd.Gr.trans {a b c : Wd} (h : a.Gr b) (h' : b.Gr c) : a.Gr c := ⟨fun n x q => h'.1 n x (h.1 n x q), fun n x q => h'.2 n x (h.2 n x q)⟩
theorem Wd.Le.gr {w w' : Wd} (l : w.Le w') : w.Gr w' := ⟨l.1, l.2.1⟩
/-- the same world, another frame -/
def Wd.wG (w : Wd) (G : Hp) : Wd := { w with G := G }
theorem Wd.Gr.le {w w' : Wd} (l : w.Gr w') : w.Le (w'.wG w.G) := ⟨l.1, l.2, rfl⟩
mutual
theorem Rep.gr {w w' : Wd} (l : w.Gr w') : ∀ {v : V} {x : W}, Rep K w v x → Rep K w' v x
  | _, _, .non => .non
  | _, _, .bl b => .bl b
  | _, _, .int i => .int i
  | _, _, .str s => .str s
  | _, _, .lst h z r => .lst (l.2 _ _ h) z (Reps.gr l r)
  | _, _, .tup h z r => .tup (l.2 _ _ h) z (Reps.gr l r)
  | _, _, .dct h z r => .dct (l.2 _ _ h) z (Reps.gr l r)
  | _, _, .cell h => .cell (l.1 _ _ h)
  | _, _, .scr h z => .scr (SqL.le l.2 h) z
theorem Reps.gr {w w' : Wd} (l : w.Gr w') : ∀ {v : List V} {x : List W}, Reps K w v x → Reps K w' v x
  | _, _, .nil => .nil
  | _, _, .cons h r => .cons (Rep.gr l h) (Reps.gr l r)
end
theorem Rep.le {w w' : Wd} (l : w.Le w') {v : V} {x : W} (r : Rep K w v x) : Rep K w' v x := r.gr l.gr
theorem Reps.le {w w' : Wd} (l : w.Le w') {v : List V} {x : List W} (r : Reps K w v x) : Reps K w' v x := r.gr l.gr
section
variable {w : Wd}
theorem Reps.length {xs : List V} {ys : List W} (r : Reps K w xs ys) : xs.length = ys.length := by
  induction xs generalizing ys with
  | nil => cases r; rfl
  | cons x xs ih => cases r with | cons h t => simp [ih t]
theorem Reps.get {xs : List V} {ys : List W} (r : Reps K w xs ys) {i : Nat} {y : W} (h : ys[i]? = some y) : ∃ x, xs[i]? = some x ∧ Rep K w x y := by
  induction xs generalizing ys i with
  | nil => cases r; simp at h
  | cons x xs ih =>
    cases r with
    | cons h1 t =>
      cases i with
      | zero => simp at h; subst h; exact ⟨x, rfl, h1⟩
      | succ i => obtain ⟨z, q, r⟩ := ih t (i := i) (by simpa using h); exact ⟨z, by simpa using q, r⟩
theorem Reps.getV {xs : List V} {ys : List W} (r : Reps K w xs ys) {i : Nat} {x : V} (h : xs[i]? = some x) : ∃ y, ys[i]? = some y ∧ Rep K w x y := by
  induction xs generalizing ys i with
  | nil => simp at h
  | cons z xs ih =>
    cases r with
    | cons h1 t =>
      cases i with
      | zero => simp at h; subst h; exact ⟨_, rfl, h1⟩
      | succ i => obtain ⟨z, q, r⟩ := ih t (i := i) (by simpa using h); exact ⟨z, by simpa using q, r⟩
theorem Reps.append {xs xs' : List V} {ys ys' : List W} (r : Reps K w xs ys) (r' : Reps K w xs' ys') : Reps K w (xs ++ xs') (ys ++ ys') := by
  induction xs generalizing ys with
  | nil => cases r; exact r'
  | cons x xs ih => cases r with | cons h t => exact .cons h (ih t)
theorem Reps.one {x : V} {y : W} (h : Rep K w x y) : Reps K w [x] [y] := .cons h .nil
theorem Reps.take {xs : List V} {ys : List W} (n : Nat) (r : Reps K w xs ys) : Reps K w (xs.take n) (ys.take n) := by
  induction n generalizing xs ys with
  | zero => simp; exact .nil
  | succ n ih => cases r with
    | nil => simp; exact .nil
    | cons h t => simp; exact .cons h (ih t)
theorem Reps.drop {xs : List V} {ys : List W} (n : Nat) (r : Reps K w xs ys) : Reps K w (xs.drop n) (ys.drop n) := by
  induction n generalizing xs ys with
  | zero => simpa using r
  | succ n ih => cases r with
    | nil => simp; exact .nil
    | cons h t => simpa using ih t
theorem Reps.set {xs : List V} {ys : List W} {x : V} {y : W} (h : Rep K w x y) (n : Nat) (r : Reps K w xs ys) : Reps K w (xs.set n x) (ys.set n y) := by
  induction n generalizing xs ys with
  | zero => cases r with
    | nil => exact .nil
    | cons h' t => exact .cons h t
  | succ n ih => cases r with
    | nil => exact .nil
    | cons h' t => exact .cons h' (ih t)
theorem Reps.eraseIdx {xs : List V} {ys : List W} (n : Nat) (r : Reps K w xs ys) : Reps K w (xs.eraseIdx n) (ys.eraseIdx n) := by
  induction n generalizing xs ys with
  | zero => cases r with
    | nil => exact .nil
    | cons h' t => simpa using t
  | succ n ih => cases r with
    | nil => exact .nil
    | cons h' t => simp; exact .cons h' (ih t)
theorem Reps.dropLast {xs : List V} {ys : List W} (r : Reps K w xs ys) : Reps K w xs.dropLast ys.dropLast := by
  rw [List.dropLast_eq_take, List.dropLast_eq_take, r.length]; exact r.take _
theorem Reps.cut {xs : List V} {ys : List W} (lo hi : Option Int) (r : Reps K w xs ys) : Reps K w (cutV xs lo hi) (cutW ys lo hi) := by
  unfold cutV cutW; rw [r.length]; exact (r.drop _).take _
theorem Reps.rep {xs : List V} {ys : List W} (n : Nat) (r : Reps K w xs ys) : Reps K w (List.replicate n xs).flatten (List.replicate n ys).flatten := by
  induction n with
  | zero => simp; exact .nil
  | succ n ih => simp only [List.replicate_succ, List.flatten_cons]; exact r.append ih
theorem Reps.ints : ∀ ns : List Int, Reps K w (ns.map V.int) (ns.map W.int)
  | [] => .nil
  | n :: ns => .cons (.int n) (Reps.ints ns)
theorem Reps.ofInts : ∀ {ns : List Int} {ws : List W} {xs : List V}, allOpt asInt ws = some ns → Reps K w xs ws → xs = ns.map V.int
  | ns, [], xs, h, r => by cases r; simp [allOpt] at h; subst h; rfl
  | ns, y :: ys, xs, h, r => by
    cases r with
    | cons h1 t =>
      simp only [allOpt] at h
      cases y with
      | int i =>
        simp only [asInt] at h
        cases e : allOpt asInt ys with
        | none => rw [e] at h; cases h
        | some ms =>
          rw [e] at h; cases h
          cases h1
          rw [Reps.ofInts e t]; rfl
      | _ => simp [asInt] at h
theorem Reps.ofBls : ∀ {ns : List Bool} {ws : List W} {xs : List V}, allOpt asBl ws = some ns → Reps K w xs ws → xs = ns.map V.bl
  | ns, [], xs, h, r => by cases r; simp [allOpt] at h; subst h; rfl
  | ns, y :: ys, xs, h, r => by
    cases r with
    | cons h1 t =>
      simp only [allOpt] at h
      cases y with
      | bl i =>
        simp only [asBl] at h
        cases e : allOpt asBl ys with
        | none => rw [e] at h; cases h
        | some ms =>
          rw [e] at h; cases h
          cases h1
          rw [Reps.ofBls e t]; rfl
      | _ => simp [asBl] at h
end

/-! ### the state -/
variable (K)
def CellOk (w : Wd) (H : Hp) (a : Addr) : Cell → Prop
  | .lst ws => ∃ xs, H a = some (.lst xs) ∧ w.F a = none ∧ xs.length ≤ sizeLine ∧ Reps K w xs ws
  | .dct ks vs => ∃ kvs : List (Key × V), H a = some (.dK kvs) ∧ w.F a = none ∧ kvs.length ≤ sizeLine ∧ kvs.map (·.1) = ks ∧ Reps K w (kvs.map (·.2)) vs
  | .dead x => Rep K w (.ref a) x
structure RS (w : Wd) (st : Store) (H : Hp) : Prop where
  fr : ∀ a o, w.F a = some o → H a = some o
  gr : ∀ a o, w.G a = some o → H a = some o ∧ w.F a = none ∧ ∀ n : Nat, w.ρ[n]? ≠ some a
  len : w.ρ.length = st.length
  inj : ∀ (n m : Nat) (a : Addr), w.ρ[n]? = some a → w.ρ[m]? = some a → n = m
  tr : ∀ (n : Nat) (a : Addr), w.ρ[n]? = some a → ∃ o, H a = some o
  cells : ∀ (n : Nat) (a : Addr) (c : Cell), w.ρ[n]? = some a → st[n]? = some c → CellOk K w H a c
structure SlR (w : Wd) (σ : L2.St) (sl : Slots) : Prop where
  len : σ.length = sl.length
  at_ : ∀ (i : Nat) (x : W), sl[i]? = some (some x) → ∃ v, σ[i]? = some (some v) ∧ Rep K w v x
variable {K}
theorem CellOk.le {w w' : Wd} {H : Hp} {a : Addr} {c : Cell} (l : w.Le w') (hF : (∀ x, c ≠ .dead x) → w'.F a = none) (h : CellOk K w H a c) : CellOk K w' H a c := by
  cases c with
  | lst ws => obtain ⟨xs, e, f, z, r⟩ := h; exact ⟨xs, e, hF (by intro x; simp), z, r.le l⟩
  | dct ks vs => obtain ⟨kvs, e, f, z, k, r⟩ := h; exact ⟨kvs, e, hF (by intro x; simp), z, k, r.le l⟩
  | dead x => exact Rep.le l h
theorem SlR.gr {w w' : Wd} {σ : L2.St} {sl : Slots} (l : w.Gr w') (h : SlR K w σ sl) : SlR K w' σ sl :=
  ⟨h.len, fun i x e => by obtain ⟨v, q, r⟩ := h.at_ i x e; exact ⟨v, q, r.gr l⟩⟩
theorem SlR.le {w w' : Wd} {σ : L2.St} {sl : Slots} (l : w.Le w') (h : SlR K w σ sl) : SlR K w' σ sl :=
  ⟨h.len, fun i x e => by obtain ⟨v, q, r⟩ := h.at_ i x e; exact ⟨v, q, r.le l⟩⟩
theorem SlR.set {w : Wd} {σ : L2.St} {sl : Slots} {v : V} {x : W} (i : Nat) (h : SlR K w σ sl) (r : Rep K w v x) : SlR K w (σ.set i (some v)) (slotSet sl i x) := by
  refine ⟨by simp [slotSet, h.len], fun j y e => ?_⟩
  unfold slotSet at e
  by_cases ij : i = j
  · subst ij
    have hl : i < sl.length := by
      rcases Nat.lt_or_ge i sl.length with q | q
      · exact q
      · rw [List.getElem?_eq_none (by simpa using q)] at e; cases e
    rw [List.getElem?_set_self hl] at e
    cases e
    exact ⟨v, by rw [List.getElem?_set_self (by rw [h.len]; exact hl)], r⟩
  · rw [List.getElem?_set_ne ij] at e ⊢
    exact h.at_ j y e
theorem SlR.wipe {w : Wd} {σ : L2.St} {sl : Slots} (h : SlR K w σ sl) : ∀ vs : List Nat, SlR K w (L2.wipe σ vs) (wipeW sl vs)
  | [] => h
  | v :: vs => by
    have ih := SlR.wipe h vs
    refine ⟨by show ((L2.wipe σ vs).set v none).length = ((wipeW sl vs).set v none).length; simp [ih.len], fun j y e => ?_⟩
    show ∃ u, ((L2.wipe σ vs).set v none)[j]? = some (some u) ∧ _
    have e : ((wipeW sl vs).set v none)[j]? = some (some y) := e
    by_cases ij : v = j
    · subst ij
      by_cases hl : v < (wipeW sl vs).length
      · rw [List.getElem?_set_self hl] at e; cases e
      · rw [List.getElem?_eq_none (by simpa using hl)] at e; cases e
    · rw [List.getElem?_set_ne ij] at e ⊢
      exact ih.at_ j y e
/-! ### the heap grows, a cell is written -/
section
variable {w : Wd} {st : Store} {H : Hp}
theorem RS.noneF (R : RS K w st H) {p : Addr} (h : H p = none) : w.F p = none := by
  cases e : w.F p with
  | none => rfl
  | some o => rw [R.fr _ _ e] at h; cases h
theorem RS.ltc (R : RS K w st H) {n : Nat} {c : Cell} (h : st[n]? = some c) : ∃ a, w.ρ[n]? = some a := by
  have hl : n < st.length := by
    rcases Nat.lt_or_ge n st.length with q | q
    · exact q
    · rw [List.getElem?_eq_none q] at h; cases h
  exact ⟨w.ρ[n]'(by rw [R.len]; exact hl), List.getElem?_eq_getElem _⟩
/-- a new object, known from now on -/
def Wd.tree (w : Wd) (p : Addr) (o : HO) : Wd := { w with F := upd w.F p o }
theorem Wd.le_tree (w : Wd) {p : Addr} {o : HO} (h : w.F p = none) : w.Le (w.tree p o) :=
  ⟨fun _ _ q => q, fun a u q => by show upd w.F p o a = some u; rw [upd_ne (ne_of_none q h)]; exact q, rfl⟩
theorem RS.cellNe (R : RS K w st H) {n : Nat} {a p : Addr} (h : w.ρ[n]? = some a) (hp : H p = none) : a ≠ p := by
  obtain ⟨o, e⟩ := R.tr n a h
  exact ne_of_none e hp
/-- H without p, at p an object -/
theorem upd_get {H : Hp} {p a : Addr} {o u : HO} (h : H p = none) (e : H a = some u) : upd H p o a = some u := by
  rw [upd_ne (ne_of_none e h)]; exact e
theorem CellOk.upd {a p : Addr} {o : HO} {c : Cell} (hp : H p = none) (h : CellOk K w H a c) : CellOk K w (upd H p o) a c := by
  cases c with
  | lst ws => obtain ⟨xs, e, f, z, r⟩ := h; exact ⟨xs, upd_get hp e, f, z, r⟩
  | dct ks vs => obtain ⟨kvs, e, f, z, k, r⟩ := h; exact ⟨kvs, upd_get hp e, f, z, k, r⟩
  | dead x => exact h
/-- a new object that nobody knows -/
theorem RS.grow (R : RS K w st H) {p : Addr} {o : HO} (hp : H p = none) : RS K w st (upd H p o) where
  fr := fun a u e => upd_get hp (R.fr a u e)
  gr := fun a u e => ⟨upd_get hp (R.gr a u e).1, (R.gr a u e).2⟩
  len := R.len
  inj := R.inj
  tr := fun n a e => by obtain ⟨u, q⟩ := R.tr n a e; exact ⟨u, upd_get hp q⟩
  cells := fun n a c e e' => (R.cells n a c e e').upd hp
/-- a new tree -/
theorem RS.tree (R : RS K w st H) {p : Addr} {o : HO} (hp : H p = none) : RS K (w.tree p o) st (L2.upd H p o) ∧ w.Le (w.tree p o) := by
  have hF := R.noneF hp
  have l := w.le_tree (o := o) hF
  refine ⟨⟨fun a u e => ?_, fun a u e => ?_, R.len, R.inj, ?_, fun n a c e e' => ?_⟩, l⟩
  · by_cases q : a = p
    · subst q
      have e : L2.upd w.F a o a = some u := e
      rw [upd_same] at e ⊢; exact e
    · have e : L2.upd w.F p o a = some u := e
      rw [upd_ne q] at e ⊢; exact R.fr a u e
  · obtain ⟨g1, g2, g3⟩ := R.gr a u e
    refine ⟨upd_get hp g1, ?_, g3⟩
    show L2.upd w.F p o a = none
    rw [upd_ne (ne_of_none g1 hp)]; exact g2
  · exact fun n a e => by obtain ⟨u, q⟩ := R.tr n a e; exact ⟨u, upd_get hp q⟩
  · refine CellOk.le l (fun hc => ?_) ((R.cells n a c e e').upd hp)
    show L2.upd w.F p o a = none
    rw [upd_ne (R.cellNe e hp)]
    have q := R.cells n a c e e'
    cases c with
    | lst ws => exact q.choose_spec.2.1
    | dct ks vs => exact q.choose_spec.2.1
    | dead x => exact absurd rfl (hc x)
/-- a new cell -/
def Wd.cellW (w : Wd) (p : Addr) : Wd := { w with ρ := w.ρ ++ [p] }
theorem Wd.le_cell (w : Wd) (p : Addr) : w.Le (w.cellW p) := by
  refine ⟨fun n a q => ?_, fun _ _ q => q, rfl⟩
  show (w.ρ ++ [p])[n]? = some a
  have hn : n < w.ρ.length := by
    rcases Nat.lt_or_ge n w.ρ.length with z | z
    · exact z
    · rw [List.getElem?_eq_none z] at q; cases q
  rw [List.getElem?_append_left hn]; exact q
theorem snoc_get {α : Type} {l : List α} {x y : α} {n : Nat} (h : (l ++ [x])[n]? = some y) : l[n]? = some y ∨ (n = l.length ∧ y = x) := by
  rcases Nat.lt_or_ge n l.length with q | q
  · rw [List.getElem?_append_left q] at h; exact .inl h
  · rw [List.getElem?_append_right q] at h
    have : n - l.length = 0 := by
      rcases Nat.eq_zero_or_pos (n - l.length) with z | z
      · exact z
      · rw [List.getElem?_eq_none (by simp; omega)] at h; cases h
    rw [this] at h
    simp at h
    exact .inr ⟨by omega, h.symm⟩
theorem snoc_self {α : Type} {l : List α} {x : α} : (l ++ [x])[l.length]? = some x := by
  rw [List.getElem?_append_right (Nat.le_refl _), Nat.sub_self]; rfl
theorem RS.cell (R : RS K w st H) {p : Addr} {xs : List V} {ws : List W} (hp : H p = none) (hz : xs.length ≤ sizeLine) (r : Reps K w xs ws) :
    RS K (w.cellW p) (st ++ [.lst ws]) (L2.upd H p (.lst xs)) ∧ w.Le (w.cellW p) ∧ (w.cellW p).ρ[st.length]? = some p := by
  have l := w.le_cell p
  refine ⟨⟨fun a u e => upd_get hp (R.fr a u e), fun a u e => ⟨upd_get hp (R.gr a u e).1, (R.gr a u e).2.1, fun n q => ?_⟩, ?_, fun n m a e e' => ?_, fun n a e => ?_, fun n a c e e' => ?_⟩, l, ?_⟩
  · rcases snoc_get q with q | ⟨_, q⟩
    · exact (R.gr a u e).2.2 n q
    · have z := (R.gr a u e).1
      rw [q, hp] at z; cases z
  · show (w.ρ ++ [p]).length = (st ++ [_]).length
    simp [R.len]
  · rcases snoc_get e with e | ⟨z, e⟩ <;> rcases snoc_get e' with e' | ⟨z', e'⟩
    · exact R.inj n m a e e'
    · exact absurd e' (R.cellNe e hp)
    · exact absurd e (R.cellNe e' hp)
    · omega
  · rcases snoc_get e with e | ⟨z, e⟩
    · obtain ⟨o, q⟩ := R.tr n a e; exact ⟨o, upd_get hp q⟩
    · subst e; exact ⟨_, upd_same⟩
  · rcases snoc_get e with e | ⟨z, e⟩
    · have hn : n < st.length := by
        rw [← R.len]
        rcases Nat.lt_or_ge n w.ρ.length with z | z
        · exact z
        · rw [List.getElem?_eq_none z] at e; cases e
      rw [List.getElem?_append_left hn] at e'
      have q := R.cells n a c e e'
      refine CellOk.le l (fun hc => ?_) (q.upd hp)
      show w.F a = none
      cases c with
      | lst ws => exact q.choose_spec.2.1
      | dct ks vs => exact q.choose_spec.2.1
      | dead x => exact absurd rfl (hc x)
    · subst e
      have : n = st.length := by rw [← R.len]; exact z
      rw [this, snoc_self] at e'
      cases e'
      exact ⟨xs, upd_same, R.noneF hp, hz, r.le l⟩
  · show (w.ρ ++ [p])[st.length]? = some p
    rw [← R.len]; exact snoc_self
/-- a cell is written -/
theorem RS.write (R : RS K w st H) {n : Nat} {a : Addr} {c : Cell} {o : HO} (hn : w.ρ[n]? = some a) (hF : w.F a = none) (new : CellOk K w (L2.upd H a o) a c) : RS K w (st.set n c) (L2.upd H a o) where
  fr := fun b u e => by rw [upd_ne (ne_of_none e hF)]; exact R.fr b u e
  gr := fun b u e => by
    obtain ⟨g1, g2, g3⟩ := R.gr b u e
    refine ⟨?_, g2, g3⟩
    rw [upd_ne (fun z => g3 n (by rw [z]; exact hn))]; exact g1
  len := by simp [R.len]
  inj := R.inj
  tr := fun m b e => by
    by_cases q : b = a
    · subst q; exact ⟨_, upd_same⟩
    · rw [upd_ne q]; exact R.tr m b e
  cells := fun m b d e e' => by
    by_cases q : m = n
    · subst q
      rw [hn] at e; cases e
      have hl : m < st.length := by
        rcases Nat.lt_or_ge m st.length with z | z
        · exact z
        · rw [List.getElem?_eq_none (by simpa using z)] at e'; cases e'
      rw [List.getElem?_set_self hl] at e'
      cases e'; exact new
    · rw [List.getElem?_set_ne (fun z => q z.symm)] at e'
      have ne : b ≠ a := fun z => q (R.inj m n a (by rw [← z]; exact e) hn)
      have h := R.cells m b d e e'
      cases d with
      | lst ws => obtain ⟨xs, e, r⟩ := h; exact ⟨xs, by rw [upd_ne ne]; exact e, r⟩
      | dct ks vs => obtain ⟨xs, e, r⟩ := h; exact ⟨xs, by rw [upd_ne ne]; exact e, r⟩
      | dead x => exact h
/-- a list's cell is frozen -/
theorem RS.freezeL (R : RS K w st H) {n : Nat} {a : Addr} {xs : List V} {ws : List W} (hn : w.ρ[n]? = some a) (hH : H a = some (.lst xs)) (hF : w.F a = none) (hz : xs.length ≤ sizeLine) (r : Reps K w xs ws) :
    RS K (w.tree a (.lst xs)) (st.set n (.dead (.lst ws))) H ∧ w.Le (w.tree a (.lst xs)) ∧ Rep K (w.tree a (.lst xs)) (.ref a) (.lst ws) := by
  have l := w.le_tree (o := .lst xs) hF
  have rp : Rep K (w.tree a (.lst xs)) (.ref a) (.lst ws) := .lst (show L2.upd w.F a _ a = _ from upd_same) hz (r.le l)
  refine ⟨⟨fun b u e => ?_, fun b u e => ?_, by simp [Wd.tree, R.len], R.inj, R.tr, fun m b d e e' => ?_⟩, l, rp⟩
  · by_cases q : b = a
    · subst q
      have e : L2.upd w.F b _ b = some u := e
      rw [upd_same] at e; cases e; exact hH
    · have e : L2.upd w.F a _ b = some u := e
      rw [upd_ne q] at e; exact R.fr b u e
  · obtain ⟨g1, g2, g3⟩ := R.gr b u e
    refine ⟨g1, ?_, g3⟩
    show L2.upd w.F a _ b = none
    rw [upd_ne (fun z => g3 n (by rw [z]; exact hn))]; exact g2
  · by_cases q : m = n
    · subst q
      have e : w.ρ[m]? = some b := e
      rw [hn] at e; cases e
      have hl : m < st.length := by
        rcases Nat.lt_or_ge m st.length with z | z
        · exact z
        · rw [List.getElem?_eq_none (by simpa using z)] at e'; cases e'
      rw [List.getElem?_set_self hl] at e'
      cases e'; exact rp
    · rw [List.getElem?_set_ne (fun z => q z.symm)] at e'
      have e : w.ρ[m]? = some b := e
      have ne : b ≠ a := fun z => q (R.inj m n a (by rw [← z]; exact e) hn)
      have h := R.cells m b d e e'
      refine CellOk.le l (fun hc => ?_) h
      show L2.upd w.F a _ b = none
      rw [upd_ne ne]
      cases d with
      | lst ws => exact h.choose_spec.2.1
      | dct ks vs => exact h.choose_spec.2.1
      | dead x => exact absurd rfl (hc x)
/-- the heap without p -/
def del (H : Hp) (p : Addr) : Hp := fun a => if a = p then none else H a
theorem del_ne {H : Hp} {p a : Addr} (h : a ≠ p) : del H p a = H a := by unfold del; rw [if_neg h]
theorem del_self {H : Hp} {p : Addr} : del H p p = none := by unfold del; rw [if_pos rfl]
theorem upd_del {H : Hp} {p : Addr} {o : HO} (h : H p = some o) : L2.upd (del H p) p o = H := by
  funext a
  by_cases q : a = p
  · subst q; rw [upd_same, h]
  · rw [upd_ne q, del_ne q]
theorem RS.del {p : Addr} (R : RS K w st H) (hF : w.F p = none) (hρ : ∀ n : Nat, w.ρ[n]? ≠ some p) (hG : w.G p = none) : RS K w st (MP.del H p) where
  fr := fun a o e => by rw [del_ne (ne_of_none e hF)]; exact R.fr a o e
  gr := fun a o e => by rw [del_ne (ne_of_none e hG)]; exact R.gr a o e
  len := R.len
  inj := R.inj
  tr := fun n a e => by rw [del_ne (fun z => hρ n (by rw [← z]; exact e))]; exact R.tr n a e
  cells := fun n a d e e' => by
    have ne : a ≠ p := fun z => hρ n (by rw [← z]; exact e)
    have h := R.cells n a d e e'
    cases d with
    | lst ws => obtain ⟨xs, e, r⟩ := h; exact ⟨xs, by rw [del_ne ne]; exact e, r⟩
    | dct ks vs => obtain ⟨xs, e, r⟩ := h; exact ⟨xs, by rw [del_ne ne]; exact e, r⟩
    | dead x => exact h
/-- another frame, as long as it lies apart -/
theorem RS.wG {G : Hp} (R : RS K w st H) (h : ∀ a o, G a = some o → H a = some o ∧ w.F a = none ∧ ∀ n : Nat, w.ρ[n]? ≠ some a) : RS K (w.wG G) st H where
  fr := R.fr
  gr := h
  len := R.len
  inj := R.inj
  tr := R.tr
  cells := fun n a d e e' => by
    have q := R.cells n a d e e'
    have l : w.Gr (w.wG G) := ⟨fun _ _ h => h, fun _ _ h => h⟩
    cases d with
    | lst ws => obtain ⟨xs, h1, h2, h3, h4⟩ := q; exact ⟨xs, h1, h2, h3, h4.gr l⟩
    | dct ks vs => obtain ⟨xs, h1, h2, h3, h4, h5⟩ := q; exact ⟨xs, h1, h2, h3, h4, h5.gr l⟩
    | dead x => exact Rep.gr l q
/-- a new list under construction -/
theorem RS.open_ {p : Addr} {xs : List V} (R : RS K w st H) (hp : H p = none) : RS K (w.wG (L2.upd w.G p (.lst xs))) st (L2.upd H p (.lst xs)) := by
  refine (R.grow (o := .lst xs) hp).wG fun a o e => ?_
  by_cases q : a = p
  · subst q
    rw [upd_same] at e; cases e
    exact ⟨upd_same, R.noneF hp, fun n z => R.cellNe z hp rfl⟩
  · rw [upd_ne q] at e
    obtain ⟨g1, g2, g3⟩ := R.gr a o e
    exact ⟨by rw [upd_ne q]; exact g1, g2, g3⟩
/-- an item more in it -/
theorem RS.more {p : Addr} {xs ys : List V} {G : Hp} (R : RS K (w.wG (L2.upd G p (.lst xs))) st H) : RS K (w.wG (L2.upd G p (.lst ys))) st (L2.upd H p (.lst ys)) := by
  obtain ⟨g1, g2, g3⟩ := R.gr p _ (show L2.upd G p (.lst xs) p = _ from upd_same)
  have R1 : RS K (w.wG (L2.upd G p (.lst xs))) st (L2.upd H p (.lst ys)) → RS K (w.wG (L2.upd G p (.lst ys))) st (L2.upd H p (.lst ys)) := fun R' => by
    have := R'.wG (G := L2.upd G p (.lst ys)) fun a o e => by
      by_cases q : a = p
      · subst q
        rw [upd_same] at e; cases e
        exact ⟨upd_same, g2, g3⟩
      · rw [upd_ne q] at e
        obtain ⟨h1, h2, h3⟩ := R.gr a o (by show L2.upd G p _ a = _; rw [upd_ne q]; exact e)
        exact ⟨by rw [upd_ne q]; exact h1, h2, h3⟩
    exact this
  have Gx : ∀ a o, G a = some o → a ≠ p → H a = some o ∧ w.F a = none ∧ ∀ n : Nat, w.ρ[n]? ≠ some a := fun a o e q => R.gr a o (by show L2.upd G p _ a = _; rw [upd_ne q]; exact e)
  refine ⟨fun a o e => ?_, fun a o e => ?_, R.len, R.inj, fun n a e => ?_, fun n a d e e' => ?_⟩
  · rw [upd_ne (ne_of_none e g2)]; exact R.fr a o e
  · by_cases q : a = p
    · subst q
      have e : L2.upd G a (.lst ys) a = some o := e
      rw [upd_same] at e; cases e
      exact ⟨upd_same, g2, g3⟩
    · have e : L2.upd G p (.lst ys) a = some o := e
      rw [upd_ne q] at e
      obtain ⟨h1, h2, h3⟩ := Gx a o e q
      exact ⟨by rw [upd_ne q]; exact h1, h2, h3⟩
  · rw [upd_ne (fun z => g3 n (by rw [← z]; exact e))]; exact R.tr n a e
  · have ne : a ≠ p := fun z => g3 n (by rw [← z]; exact e)
    have q := R.cells n a d e e'
    have l : (w.wG (L2.upd G p (.lst xs))).Gr (w.wG (L2.upd G p (.lst ys))) := ⟨fun _ _ h => h, fun _ _ h => h⟩
    cases d with
    | lst ws => obtain ⟨zs, h1, h2, h3, h4⟩ := q; exact ⟨zs, by rw [upd_ne ne]; exact h1, h2, h3, h4.gr l⟩
    | dct ks vs => obtain ⟨zs, h1, h2, h3, h4, h5⟩ := q; exact ⟨zs, by rw [upd_ne ne]; exact h1, h2, h3, h4, h5.gr l⟩
    | dead x => exact Rep.gr l q
end
end MP
/-! MP3: operations by values. -/
namespace MP
open PySem PySem.Spec PyProof.Rows L2
variable {K : PySem.W.Frag}
/-! ### what an evaluation leaves -/
def Out (K : PySem.W.Frag) {α : Type} (r : Res α) (w : Wd) (R : Wd → Hp → Store → α → Prop) (E : Wd → Hp → Store → Nat → W → Prop) : Prop := match r with
  | .ok a st => ∀ w' H', w.Le w' → RS K w' st H' → R w' H' st a
  | .exc c x st => ∀ w' H', w.Le w' → RS K w' st H' → E w' H' st c x
  | .err => False
section
variable {α β : Type} {r : Res α} {m : M α} {f : α → M β} {w w1 : Wd} {st : Store} {H : Hp} {R R' : Wd → Hp → Store → α → Prop} {E E' : Wd → Hp → Store → Nat → W → Prop}
theorem Out.le (h : Out K r w R E) (l : w.Le w1) : Out K r w1 R E := by
  cases r with
  | err => exact h
  | ok a st => exact fun w' H' l' => h w' H' (l.trans l')
  | exc c x st => exact fun w' H' l' => h w' H' (l.trans l')
theorem Out.imp (h : Out K r w R E) (hR : ∀ w' H' st' a, w.Le w' → RS K w' st' H' → R w' H' st' a → R' w' H' st' a) (hE : ∀ w' H' st' c x, w.Le w' → RS K w' st' H' → E w' H' st' c x → E' w' H' st' c x) : Out K r w R' E' := by
  cases r with
  | err => exact h
  | ok a st => exact fun w' H' l' q => hR _ _ _ _ l' q (h w' H' l' q)
  | exc c x st => exact fun w' H' l' q => hE _ _ _ _ _ l' q (h w' H' l' q)
theorem Out.bind {R : Wd → Hp → Store → β → Prop} (h : Out K (M.bind m f st) w R E) : Out K (m st) w (fun w1 _ st1 a => Out K (f a st1) w1 R E) E := by
  unfold M.bind at h
  cases e : m st with
  | err => rw [e] at h; exact h
  | ok a st1 => rw [e] at h; exact fun w' H' l' _ => Out.le h l'
  | exc c x st1 => rw [e] at h; exact h
theorem Out.opt {o : Option α} (h : Out K (M.opt o st) w R E) : ∃ a, o = some a ∧ ∀ w' H', w.Le w' → RS K w' st H' → R w' H' st a := by
  cases o with
  | none => exact False.elim h
  | some a => exact ⟨a, rfl, h⟩
end
/-- the value that comes -/
abbrev RV (Q : VK) : Wd → Hp → Store → W → Prop := fun w' H' _ r => ∀ v, Rep K w' v r → Q v H'
section
variable {w : Wd} {st : Store} {H : Hp} {Q : VK} {E : Wd → Hp → Store → Nat → W → Prop}
theorem Out.laid {c : Bool} {ws : List W} {xs : List V} {p : Addr} (R : RS K w st H) (hp : H p = none) (hz : xs.length ≤ sizeLine) (r : Reps K w xs ws) (h : Out K (fin c (.lst ws) st) w (RV (K := K) Q) E) : Q (.ref p) (upd H p (.lst xs)) := by
  cases c with
  | false =>
    have h : ∀ w' H', w.Le w' → RS K w' st H' → ∀ v, Rep K w' v (.lst ws) → Q v H' := h
    obtain ⟨R', l⟩ := R.tree (o := .lst xs) hp
    exact h _ _ l R' _ (.lst upd_same hz (r.le l))
  | true =>
    have h : ∀ w' H', w.Le w' → RS K w' (st ++ [.lst ws]) H' → ∀ v, Rep K w' v (.cell st.length) → Q v H' := h
    obtain ⟨R', l, e⟩ := R.cell hp hz r
    exact h _ _ l R' _ (.cell e)
theorem Out.laidT {c : Bool} {ws : List W} {xs : List V} {p : Addr} (R : RS K w st H) (hp : H p = none) (hz : xs.length ≤ sizeLine) (r : Reps K w xs ws) (h : Out K (fin c (.tup ws) st) w (RV (K := K) Q) E) : Q (.ref p) (upd H p (.tup xs)) := by
  cases c with
  | false =>
    have h : ∀ w' H', w.Le w' → RS K w' st H' → ∀ v, Rep K w' v (.tup ws) → Q v H' := h
    obtain ⟨R', l⟩ := R.tree (o := .tup xs) hp
    exact h _ _ l R' _ (.tup upd_same hz (r.le l))
  | true =>
    have h : ∀ w' H', w.Le w' → RS K w' st H' → ∀ v, Rep K w' v (.tup ws) → Q v H' := h
    obtain ⟨R', l⟩ := R.tree (o := .tup xs) hp
    exact h _ _ l R' _ (.tup upd_same hz (r.le l))
theorem Out.val {c : Bool} {x : W} {v : V} (R : RS K w st H) (hn : ∀ ws, x ≠ .lst ws) (r : Rep K w v x) (h : Out K (fin c x st) w (RV (K := K) Q) E) : Q v H := by
  cases c with
  | false => exact h w H (Wd.Le.refl w) R v r
  | true =>
    unfold fin at h
    cases x with
    | lst ws => exact absurd rfl (hn ws)
    | _ => exact h w H (Wd.Le.refl w) R v r
end
/-! ### what stands where -/
section
variable {w : Wd} {st : Store} {H : Hp}
theorem asLst_ok (R : RS K w st H) {v : V} {x : W} {ws : List W} (r : Rep K w v x) (h : asLst st x = some ws) : ∃ p xs, v = .ref p ∧ H p = some (.lst xs) ∧ xs.length ≤ sizeLine ∧ Reps K w xs ws := by
  cases r with
  | lst e z r => cases h; exact ⟨_, _, rfl, R.fr _ _ e, z, r⟩
  | @cell a n e =>
    dsimp only [asLst] at h
    cases q : st[n]? with
    | none => rw [q] at h; cases h
    | some c =>
      rw [q] at h
      have ok := R.cells n a c e q
      cases c with
      | lst ys => cases h; obtain ⟨xs, e1, _, z, r⟩ := ok; exact ⟨_, _, rfl, e1, z, r⟩
      | dct ks vs => cases h
      | dead y =>
        cases y with
        | lst ys =>
          cases h
          have ok : Rep K w (.ref a) (.lst ws) := ok
          cases ok with
          | lst e z r => exact ⟨_, _, rfl, R.fr _ _ e, z, r⟩
        | _ => cases h
  | _ => cases h
theorem asTup_ok (R : RS K w st H) {v : V} {ws : List W} (r : Rep K w v (.tup ws)) : ∃ p xs, v = .ref p ∧ H p = some (.tup xs) ∧ xs.length ≤ sizeLine ∧ Reps K w xs ws := by
  cases r with
  | tup e z r => exact ⟨_, _, rfl, R.fr _ _ e, z, r⟩
/-- a list or a tuple, to be read -/
theorem asSeq_ok (R : RS K w st H) {v : V} {x : W} {ws : List W} (r : Rep K w v x) (h : asSeq st x = some ws) : ∃ p xs, v = .ref p ∧ ((SqL K H p xs) ∨ (H p = some (.tup xs) ∧ x = .tup ws)) ∧ xs.length ≤ sizeLine ∧ Reps K w xs ws := by
  cases r with
  | tup e z r => cases h; exact ⟨_, _, rfl, .inr ⟨R.fr _ _ e, rfl⟩, z, r⟩
  | scr e z =>
    cases h
    exact ⟨_, _, rfl, .inl (SqL.le R.fr e), by simpa using z, Reps.ints _⟩
  | lst e z r => cases h; exact ⟨_, _, rfl, .inl (SqL.of (R.fr _ _ e)), z, r⟩
  | cell e =>
    obtain ⟨p, xs, e1, e2, z, r⟩ := asLst_ok R (.cell e) (show asLst st _ = some ws from h)
    exact ⟨p, xs, e1, .inl (SqL.of e2), z, r⟩
  | _ => cases h
theorem asDct_ok (R : RS K w st H) {v : V} {x : W} {ks : List Key} {vs : List W} (r : Rep K w v x) (h : asDct st x = some (ks, vs)) :
    ∃ (p : Addr) (kvs : List (Key × V)), v = .ref p ∧ Rd H p (.dK kvs) ∧ kvs.length ≤ sizeLine ∧ kvs.map (·.1) = ks ∧ Reps K w (kvs.map (·.2)) vs := by
  cases r with
  | dct e z r => cases h; exact ⟨_, _, rfl, .inr ⟨_, R.fr _ _ e⟩, z, rfl, r⟩
  | @cell a n e =>
    dsimp only [asDct] at h
    cases q : st[n]? with
    | none => rw [q] at h; cases h
    | some c =>
      rw [q] at h
      have ok := R.cells n a c e q
      cases c with
      | lst ys => cases h
      | dct ks vs => cases h; obtain ⟨kvs, e1, _, z, k, r⟩ := ok; exact ⟨_, _, rfl, .inl e1, z, k, r⟩
      | dead y =>
        cases y with
        | dct ks vs =>
          cases h
          have ok : Rep K w (.ref a) (.dct ks vs) := ok
          generalize hd : W.dct ks vs = y at ok
          cases ok with
          | dct e z r => cases hd; exact ⟨_, _, rfl, .inr ⟨_, R.fr _ _ e⟩, z, rfl, r⟩
          | _ => cases hd
        | _ => cases h
  | _ => cases h
end
/-! ### readings by values -/
/-- two values in, one out -/
def R2W (K : PySem.W.Frag) (f : W → W → M W) : R2 := fun x y H Q => ∃ w st a b E, RS K w st H ∧ Rep K w x a ∧ Rep K w y b ∧ Out K (f a b st) w (RV (K := K) Q) E
def RNW (K : PySem.W.Frag) (f : List W → M W) : List V → Hp → VK → Prop := fun xs H Q => ∃ w st as E, RS K w st H ∧ Reps K w xs as ∧ Out K (f as st) w (RV (K := K) Q) E
theorem lim_le {n : Nat} (h : n ≤ LIM) : n ≤ sizeLine := Nat.le_trans h (by decide)
section
variable {X : Cx}
def binF (c : Bool) (op : Op) : W → W → M W := fun a b => M.bind (fun st => M.opt (binW st op a b) st) (fin c)
def opP : Op → Operator
  | .add => .Add
  | .sub => .Sub
  | .mul => .Mult
  | .fdiv => .FloorDiv
  | .mod => .Mod
  | .pow => .Pow
theorem binF_ok {c : Bool} {op : Op} {a b : W} {st : Store} {w : Wd} {H : Hp} {R : Wd → Hp → Store → W → Prop} {E : Wd → Hp → Store → Nat → W → Prop} (hR : RS K w st H) (h : Out K (binF c op a b st) w R E) : ∃ r, binW st op a b = some r ∧ Out K (fin c r st) w R E := by
  obtain ⟨r, e, q⟩ := (Out.bind h).opt
  exact ⟨r, e, q w H (Wd.Le.refl w) hR⟩
theorem mulOk_ok {i j : Int} (h : mulOk i j = true) : CMul i j ∨ CMulW i j := by
  unfold mulOk at h
  simp only [Bool.or_eq_true, decide_eq_true_eq] at h
  rcases h with (h | h) | h
  · left; left; omega
  · left; right; omega
  · right; exact h
theorem opBin (c : Bool) (op : Op) : OpR X (binaryOp (opP op)) (R2W X.K (binF c op)) := by
  intro pins s σ H x y v u Q I rx ry ⟨w, st, a, b, E, R, ra, rb, h0⟩
  obtain ⟨r, e, h⟩ := binF_ok R h0
  have hInts : ∀ (i j k : Int), a = .int i → b = .int j → iBin op i j = some k → r = .int k → wpAny (model X.prog X.w) X.A (binaryOp (opP op) v u) (EP X pins σ Q) X.xe s := by
    intro i j k ha hb hk hr
    subst ha hb hr
    cases ra; cases rb
    have q : Q (.int k) H := h.val R (by intro _ z; cases z) (.int k)
    cases op with
    | add => cases hk; exact op_add pins s σ H _ _ v u Q I rx ry ⟨i, j, rfl, rfl, q⟩
    | sub => cases hk; exact op_sub pins s σ H _ _ v u Q I rx ry ⟨i, j, rfl, rfl, q⟩
    | mul =>
      simp only [iBin] at hk
      split at hk
      · next m =>
        cases hk
        rcases mulOk_ok m with m | m
        · exact op_mul pins s σ H _ _ v u Q I rx ry ⟨i, j, rfl, rfl, m, q⟩
        · exact op_mulW pins s σ H _ _ v u Q I rx ry ⟨i, j, rfl, rfl, m, q⟩
      · cases hk
    | fdiv =>
      simp only [iBin] at hk
      split at hk
      · next m => cases hk; exact op_fdivW pins s σ H _ _ v u Q I rx ry ⟨i, j, rfl, rfl, m, q⟩
      · cases hk
    | mod =>
      simp only [iBin] at hk
      split at hk
      · next m => cases hk; exact op_mod pins s σ H _ _ v u Q I rx ry ⟨i, j, rfl, rfl, m, q⟩
      · cases hk
    | pow =>
      simp only [iBin] at hk
      split at hk
      · next m => cases hk; exact op_pow pins s σ H _ _ v u Q I rx ry ⟨i, j, rfl, rfl, m, q⟩
      · cases hk
  have hLists : ∀ ws ws', op = .add → asLst st a = some ws → asLst st b = some ws' → ws.length + ws'.length ≤ LIM → r = .lst (ws ++ ws') → wpAny (model X.prog X.w) X.A (binaryOp (opP op) v u) (EP X pins σ Q) X.xe s := by
    intro ws ws' ho e1 e2 hl hr
    subst ho hr
    obtain ⟨p, xs, rfl, hp, z, rr⟩ := asLst_ok R ra e1
    obtain ⟨p', xs', rfl, hp', z', rr'⟩ := asLst_ok R rb e2
    have hz : xs.length + xs'.length ≤ sizeLine := by rw [rr.length, rr'.length]; exact lim_le hl
    exact op_cat pins s σ H _ _ v u Q I rx ry ⟨p, p', xs, xs', rfl, rfl, hp, hp', hz, fun q hq => h.laid R hq (by simpa using hz) (rr.append rr')⟩
  have hReps : ∀ ws (j : Int), op = .mul → asLst st a = some ws → b = .int j → -(2 ^ 62) ≤ j → j < 2 ^ 62 → ws.length * j.toNat ≤ LIM → r = .lst (List.replicate j.toNat ws).flatten → wpAny (model X.prog X.w) X.A (binaryOp (opP op) v u) (EP X pins σ Q) X.xe s := by
    intro ws j ho e1 e2 h1 h2 hl hr
    subst ho hr e2
    cases rb
    obtain ⟨p, xs, rfl, hp, z, rr⟩ := asLst_ok R ra e1
    have hz : xs.length * j.toNat ≤ sizeLine := by rw [rr.length]; exact lim_le hl
    exact op_rep pins s σ H _ _ v u Q I rx ry ⟨p, j, xs, rfl, rfl, hp, by omega, by omega, hz, fun q hq => h.laid R hq (by simpa [Nat.mul_comm] using hz) (rr.rep _)⟩
  unfold binW at e
  split at e
  · next i j =>
    cases q : iBin op i j with
    | none => rw [q] at e; cases e
    | some k => rw [q] at e; cases e; exact hInts i j k rfl rfl q rfl
  · next x' y' =>
    cases op with
    | add =>
      simp only at e
      split at e
      · next hl =>
        cases e
        cases ra; cases rb
        exact op_add_str pins s σ H _ _ v u Q I rx ry ⟨_, _, rfl, rfl, lim_le hl, h.val R (by intro _ z; cases z) (.str _)⟩
      · cases e
    | _ => cases e
  · next xs ys =>
    cases op with
    | add =>
      simp only at e
      split at e
      · next hl =>
        cases e
        obtain ⟨p, zs, rfl, hp, z, rr⟩ := asTup_ok R ra
        obtain ⟨p', zs', rfl, hp', z', rr'⟩ := asTup_ok R rb
        have hz : zs.length + zs'.length ≤ sizeLine := by rw [rr.length, rr'.length]; exact lim_le hl
        refine op_catA pins s σ H _ _ v u Q I rx ry ⟨p, p', zs, zs', rfl, rfl, SqT.of hp, SqT.of hp', hz, fun q => ?_, fun q q' => ?_, fun _ _ q hq => h.laidT R hq (by simpa using hz) (rr.append rr')⟩
        · subst q; cases rr; exact h.val R (by intro _ z; cases z) rb
        · subst q'; cases rr'; exact h.val R (by intro _ z; cases z) (by simpa using ra)
      · cases e
    | _ => cases e
  · next _ _ j _ =>
    cases op with
    | mul =>
      simp only at e
      cases q : asLst st a with
      | none => rw [q] at e; cases e
      | some ws =>
        rw [q] at e
        simp only [Option.bind_some] at e
        split at e
        · next hl =>
          simp only [Bool.and_eq_true, decide_eq_true_eq] at hl
          cases e
          exact hReps ws j rfl q rfl hl.1.1 hl.1.2 hl.2 rfl
        · cases e
    | _ => cases e
  · cases op with
    | add =>
      simp only at e
      cases q : asLst st a with
      | none => rw [q] at e; cases e
      | some ws =>
        rw [q] at e
        simp only [Option.bind_some] at e
        cases q' : asLst st b with
        | none => rw [q'] at e; cases e
        | some ws' =>
          rw [q'] at e
          simp only [Option.bind_some] at e
          split at e
          · next hl => cases e; exact hLists ws ws' rfl q q' hl rfl
          · cases e
    | _ => cases e

/-! ### comparisons -/
theorem allOpt_get {α β : Type} {f : α → Option β} : ∀ {l : List α} {r : List β}, allOpt f l = some r → l.length = r.length ∧ ∀ (i : Nat) (a : α), l[i]? = some a → ∃ b, r[i]? = some b ∧ f a = some b
  | [], r, h => by simp [allOpt] at h; subst h; exact ⟨rfl, fun i a e => by simp at e⟩
  | x :: l, r, h => by
    simp only [allOpt] at h
    cases e : f x with
    | none => rw [e] at h; cases h
    | some b =>
      rw [e] at h
      cases e' : allOpt f l with
      | none => rw [e'] at h; cases h
      | some bs =>
        rw [e'] at h; cases h
        obtain ⟨h1, h2⟩ := allOpt_get e'
        refine ⟨by simp [h1], fun i a q => ?_⟩
        cases i with
        | zero => simp at q; subst q; exact ⟨b, rfl, e⟩
        | succ i => simpa using h2 i a (by simpa using q)
theorem dpAll_of {H : Hp} {w : Wd} {st : Store} {n : Nat} (ih : ∀ v x d, Rep K w v x → data st n x = some d → Dp K H v d) : ∀ {ws : List W} {xs : List V} {ds : List PyData}, Reps K w xs ws → allOpt (data st n) ws = some ds → DpAll K H xs ds
  | [], xs, ds, r, h => by cases r; simp [allOpt] at h; subst h; exact .nil
  | y :: ys, xs, ds, r, h => by
    cases r with
    | cons h1 t =>
      simp only [allOpt] at h
      cases e : data st n y with
      | none => rw [e] at h; cases h
      | some b =>
        rw [e] at h
        cases e' : allOpt (data st n) ys with
        | none => rw [e'] at h; cases h
        | some bs =>
          rw [e'] at h; cases h
          exact .cons (ih _ _ _ h1 e) (dpAll_of ih t e')
theorem data_ok {w : Wd} {st : Store} {H : Hp} (R : RS K w st H) : ∀ (n : Nat) (v : V) (x : W) (d : PyData), Rep K w v x → data st n x = some d → Dp K H v d
  | n, _, .non, d, .non, h => by cases n <;> (cases h; exact .non)
  | n, _, .bl b, d, .bl _, h => by cases n <;> (cases h; exact .bl b)
  | n, _, .int b, d, .int _, h => by cases n <;> (cases h; exact .int b)
  | n, _, .str b, d, .str _, h => by cases n <;> (cases h; exact .str b)
  | 0, _, .lst ws, d, _, h => by cases h
  | 0, _, .tup ws, d, _, h => by cases h
  | 0, _, .cell ws, d, _, h => by cases h
  | 0, _, .dct _ _, d, _, h => by cases h
  | 0, _, .scr _, d, _, h => by cases h
  | n + 1, _, .dct _ _, d, _, h => by cases h
  | n + 1, _, .scr _, d, _, h => by cases h
  | n + 1, v, .lst ws, d, r, h => by
    obtain ⟨p, xs, rfl, hp, z, rr⟩ := asLst_ok R r (ws := ws) rfl
    dsimp only [data] at h
    cases e : allOpt (data st n) ws with
    | none => rw [e] at h; cases h
    | some ds => rw [e] at h; cases h; exact .lst (SqL.of hp) (dpAll_of (data_ok R n) rr e)
  | n + 1, v, .tup ws, d, r, h => by
    obtain ⟨p, xs, rfl, hp, z, rr⟩ := asTup_ok R r
    dsimp only [data] at h
    cases e : allOpt (data st n) ws with
    | none => rw [e] at h; cases h
    | some ds => rw [e] at h; cases h; exact .tup (SqT.of hp) (dpAll_of (data_ok R n) rr e)
  | n + 1, v, .cell k, d, r, h => by
    have key : ∀ ws, asLst st (.cell k) = some ws → (allOpt (data st n) ws).map PyData.list = some d → Dp K H v d := by
      intro ws q h
      obtain ⟨p, xs, rfl, hp, z, rr⟩ := asLst_ok R r q
      cases e : allOpt (data st n) ws with
      | none => rw [e] at h; cases h
      | some ds => rw [e] at h; cases h; exact .lst (SqL.of hp) (dpAll_of (data_ok R n) rr e)
    dsimp only [data] at h
    dsimp only [asLst] at key
    cases q : st[k]? with
    | none => rw [q] at h; cases h
    | some c =>
      rw [q] at h key
      cases c with
      | lst ws => exact key ws rfl h
      | dct _ _ => cases h
      | dead y =>
        cases y with
        | lst ws => exact key ws rfl h
        | _ => cases h
section
variable {X : Cx}
def cmpP : Cmp → CmpOp
  | .eq => .Eq
  | .ne => .NotEq
  | .lt => .Lt
  | .le => .LtE
  | .gt => .Gt
  | .ge => .GtE
  | .isn => .Is
  | .notn => .IsNot
  | .inn => .In
  | .notin => .NotIn
def cmpF (op : Cmp) : W → W → M W := fun a b st => M.opt ((cmpW st op a b).map .bl) st
theorem rvBl {w : Wd} {st : Store} {H : Hp} {Q : VK} {E : Wd → Hp → Store → Nat → W → Prop} {o : Option Bool} (R : RS K w st H) (h : Out K (M.opt (o.map W.bl) st) w (RV (K := K) Q) E) : ∃ b, o = some b ∧ Q (.bl b) H := by
  obtain ⟨a, e, q⟩ := h.opt
  cases o with
  | none => cases e
  | some b => cases e; exact ⟨b, rfl, q w H (Wd.Le.refl w) R _ (.bl b)⟩
theorem map_some {α β : Type} {f : α → β} {o : Option α} {b : β} (h : o.map f = some b) : ∃ a, o = some a ∧ f a = b := by
  cases o with
  | none => cases h
  | some a => exact ⟨a, rfl, Option.some.inj h⟩
theorem bind_some {α β : Type} {f : α → Option β} {o : Option α} {b : β} (h : o.bind f = some b) : ∃ a, o = some a ∧ f a = some b := by
  cases o with
  | none => cases h
  | some a => exact ⟨a, rfl, h⟩
theorem asInt_ok {w : Wd} {v : V} {x : W} {i : Int} (r : Rep K w v x) (h : asInt x = some i) : v = .int i := by
  cases r <;> first | (cases h; rfl) | cases h
theorem asStr_ok {w : Wd} {v : V} {x : W} {i : Str} (r : Rep K w v x) (h : asStr x = some i) : v = .str i := by
  cases r <;> first | (cases h; rfl) | cases h
theorem asBl_ok {w : Wd} {v : V} {x : W} {i : Bool} (r : Rep K w v x) (h : asBl x = some i) : v = .bl i := by
  cases r <;> first | (cases h; rfl) | cases h
theorem flat_rep {w : Wd} {v : V} {x : W} (r : Rep K w v x) (h : flatW x = true) : flatV v = true ∧ ∀ {v' : V} {x' : W}, Rep K w v' x' → flatW x' = true → eqV v v' = eqFlat x x' := by
  cases r <;> first | (cases h; done) | (refine ⟨rfl, fun r' h' => ?_⟩; cases r' <;> first | (cases h'; done) | rfl)
theorem flats {w : Wd} : ∀ {xs : List V} {ws : List W}, Reps K w xs ws → ws.all flatW = true → xs.all flatV = true ∧ ∀ {v : V} {x : W}, Rep K w v x → flatW x = true → inV v xs = ws.any fun z => eqFlat z x
  | [], ws, r, h => by cases r; exact ⟨rfl, fun _ _ => rfl⟩
  | y :: ys, ws, r, h => by
    cases r with
    | cons h1 t =>
      simp only [List.all_cons, Bool.and_eq_true] at h
      obtain ⟨a1, a2⟩ := flats t h.2
      obtain ⟨b1, b2⟩ := flat_rep h1 h.1
      refine ⟨by simp [b1, a1], fun rv hv => ?_⟩
      show (eqV _ _ || inV _ ys) = _
      rw [a2 rv hv, b2 rv hv]; rfl
theorem eqW_ok {st : Store} {w : Wd} {H : Hp} {x y : V} {a b : W} {r : Bool} (R : RS K w st H) (ra : Rep K w x a) (rb : Rep K w y b) (h : eqW st a b = some r) :
    (scal x y = true ∧ r = decide (x = y)) ∨ ∃ d e, Dp K H x d ∧ Dp K H y e ∧ SeqAt.shaped d = true ∧ SeqAt.shaped e = true ∧ r = PyData.eqv d e := by
  have deep : ((data st DEPTH a).bind fun d => (data st DEPTH b).bind fun e => if PySem.SeqAt.shaped d && PySem.SeqAt.shaped e then some (PyData.eqv d e) else none) = some r →
      ∃ d e, Dp K H x d ∧ Dp K H y e ∧ SeqAt.shaped d = true ∧ SeqAt.shaped e = true ∧ r = PyData.eqv d e := by
    intro h
    obtain ⟨d, e1, h⟩ := bind_some h
    obtain ⟨e, e2, h⟩ := bind_some h
    split at h
    · next q =>
      cases h
      simp only [Bool.and_eq_true] at q
      exact ⟨d, e, data_ok R _ _ _ _ ra e1, data_ok R _ _ _ _ rb e2, q.1, q.2, rfl⟩
    · cases h
  unfold eqW at h
  split at h
  · cases h; cases ra; cases rb; left; exact ⟨rfl, by simp⟩
  · cases h; cases ra; cases rb; left; exact ⟨rfl, by simp⟩
  · cases h; cases ra; cases rb; left; exact ⟨rfl, by simp⟩
  · cases h; cases ra; cases rb; left; exact ⟨rfl, by simp⟩
  · right; exact deep h
theorem opCmp (op : Cmp) (hu : X.A.units + 100 < cLine) : OpR X (compareOp (cmpP op)) (R2W X.K (cmpF op)) := by
  intro pins s σ H x y v u Q I rx ry ⟨w, st, a, b, E, R, ra, rb, h0⟩
  obtain ⟨r, e, q⟩ := rvBl R h0
  have ie : ∀ (f : Int → Int → Bool), ((asInt a).bind fun i => (asInt b).map fun j => f i j) = some r → ∃ i j, x = .int i ∧ y = .int j ∧ r = f i j := by
    intro f h
    obtain ⟨i, e1, h⟩ := bind_some h
    obtain ⟨j, e2, h⟩ := map_some h
    exact ⟨i, j, asInt_ok ra e1, asInt_ok rb e2, h.symm⟩
  have inn : ∀ r', inW st a b = some r' → (∃ i j, x = .str i ∧ y = .str j ∧ r' = !(Builtin.Str.occurrences j i 0 j.length 1).isEmpty) ∨ (∃ p xs, y = .ref p ∧ (SqL X.K H p xs ∨ SqT X.K H p xs) ∧ flatV x = true ∧ xs.all flatV = true ∧ r' = inV x xs) ∨
      ∃ d ds, Dp X.K H x d ∧ Dp X.K H y (.list ds) ∧ SeqAt.shaped d = true ∧ SeqAt.shaped (.list ds) = true ∧ r' = ds.any fun z => PyData.eqv z d := by
    intro r' h
    unfold inW at h
    split at h
    · obtain ⟨i, e1, h⟩ := map_some h
      cases rb
      exact .inl ⟨i, _, asStr_ok ra e1, rfl, h.symm⟩
    · right
      split at h
      · next ws e1 =>
        obtain ⟨p, xs, rfl, hp, z, rr⟩ := asSeq_ok R rb e1
        split at h
        · next e2 =>
          simp only [Bool.and_eq_true] at e2
          cases h
          obtain ⟨f1, f2⟩ := flats rr e2.2
          refine .inl ⟨p, xs, rfl, ?_, (flat_rep ra e2.1).1, f1, (f2 ra e2.1).symm⟩
          rcases hp with hp | ⟨hp, _⟩
          · exact .inl hp
          · exact .inr (SqT.of hp)
        · obtain ⟨d, e3, h⟩ := bind_some h
          obtain ⟨g, e4, h⟩ := bind_some h
          cases g with
          | list ds =>
            simp only at h
            split at h
            · next e5 =>
              cases h
              simp only [Bool.and_eq_true] at e5
              exact .inr ⟨d, ds, data_ok R _ _ _ _ ra e3, data_ok R _ _ _ _ rb e4, e5.1, e5.2, rfl⟩
            · cases h
          | _ => cases h
      · cases h
  cases op with
  | eq =>
    rcases eqW_ok R ra rb e with ⟨h1, h2⟩ | ⟨d, g, h1, h2, h3, h4, h5⟩
    · subst h2; exact op_eq pins s σ H x y v u Q I rx ry ⟨h1, q⟩
    · subst h5; exact op_eqD (by omega) pins s σ H x y v u Q I rx ry ⟨d, g, h1, h2, h3, h4, q⟩
  | ne =>
    obtain ⟨r', e1, rfl⟩ := map_some (f := (!·)) (show (eqW st a b).map (!·) = some r from e)
    rcases eqW_ok R ra rb e1 with ⟨h1, h2⟩ | ⟨d, g, h1, h2, h3, h4, h5⟩
    · subst h2; exact op_ne pins s σ H x y v u Q I rx ry ⟨h1, q⟩
    · subst h5; exact op_neD (by omega) pins s σ H x y v u Q I rx ry ⟨d, g, h1, h2, h3, h4, q⟩
  | lt => obtain ⟨i, j, rfl, rfl, rfl⟩ := ie _ e; exact op_lt pins s σ H _ _ v u Q I rx ry ⟨i, j, rfl, rfl, q⟩
  | le => obtain ⟨i, j, rfl, rfl, rfl⟩ := ie _ e; exact op_le pins s σ H _ _ v u Q I rx ry ⟨i, j, rfl, rfl, q⟩
  | gt => obtain ⟨i, j, rfl, rfl, rfl⟩ := ie _ e; exact op_gt pins s σ H _ _ v u Q I rx ry ⟨i, j, rfl, rfl, q⟩
  | ge => obtain ⟨i, j, rfl, rfl, rfl⟩ := ie _ e; exact op_ge pins s σ H _ _ v u Q I rx ry ⟨i, j, rfl, rfl, q⟩
  | isn =>
    dsimp only [cmpW] at e
    clear h0 ie inn
    cases rb <;> first | (cases e; done) | skip
    refine op_isN pins s σ H _ _ v u Q I rx ry ⟨rfl, ?_⟩
    cases ra <;> (cases e; exact q)
  | notn =>
    dsimp only [cmpW] at e
    clear h0 ie inn
    cases rb <;> first | (cases e; done) | skip
    refine op_notN pins s σ H _ _ v u Q I rx ry ⟨rfl, ?_⟩
    cases ra <;> (cases e; exact q)
  | inn =>
    rcases inn r e with ⟨i, j, rfl, rfl, rfl⟩ | ⟨p, xs, rfl, h1, h2, h3, rfl⟩ | ⟨d, ds, h1, h2, h3, h4, rfl⟩
    · exact op_in_str pins s σ H _ _ v u Q I rx ry ⟨i, j, rfl, rfl, q⟩
    · exact op_in_seq pins s σ H _ _ v u Q I rx ry ⟨p, xs, rfl, h1, h2, h3, q⟩
    · exact op_inD (by omega) pins s σ H _ _ v u Q I rx ry ⟨d, ds, h1, h2, h3, h4, q⟩
  | notin =>
    obtain ⟨r', e1, rfl⟩ := map_some (f := (!·)) (show (inW st a b).map (!·) = some r from e)
    rcases inn r' e1 with ⟨i, j, rfl, rfl, rfl⟩ | ⟨p, xs, rfl, h1, h2, h3, rfl⟩ | ⟨d, ds, h1, h2, h3, h4, rfl⟩
    · exact op_notin_str pins s σ H _ _ v u Q I rx ry ⟨i, j, rfl, rfl, q⟩
    · exact op_notIn_seq pins s σ H _ _ v u Q I rx ry ⟨p, xs, rfl, h1, h2, h3, q⟩
    · exact op_notInD (by omega) pins s σ H _ _ v u Q I rx ry ⟨d, ds, h1, h2, h3, h4, q⟩
end
end
end MP
/-! MP4: built-ins by values. -/
namespace MP
open PySem PySem.Spec PyProof.Rows L2
variable {K : PySem.W.Frag}
/-! ### isinstance -/
def tyN : Ty → String
  | .bool => "bool"
  | .int => "int"
  | .str => "str"
  | .list => "list"
  | .tuple => "tuple"
  | .dict => "dict"
def KIT : List (String × Ty × Bool) := [("NoneType", .bool, false), ("NoneType", .int, false), ("NoneType", .str, false), ("NoneType", .list, false), ("NoneType", .tuple, false), ("NoneType", .dict, false), ("bool", .bool, true), ("bool", .int, true), ("bool", .str, false), ("bool", .list, false), ("bool", .tuple, false), ("bool", .dict, false), ("int", .bool, false), ("int", .int, true), ("int", .str, false), ("int", .list, false), ("int", .tuple, false), ("int", .dict, false), ("str", .bool, false), ("str", .int, false), ("str", .str, true), ("str", .list, false), ("str", .tuple, false), ("str", .dict, false), ("list", .bool, false), ("list", .int, false), ("list", .str, false), ("list", .list, true), ("list", .tuple, false), ("list", .dict, false), ("tuple", .bool, false), ("tuple", .int, false), ("tuple", .str, false), ("tuple", .list, false), ("tuple", .tuple, true), ("tuple", .dict, false), ("dict", .bool, false), ("dict", .int, false), ("dict", .str, false), ("dict", .list, false), ("dict", .tuple, false), ("dict", .dict, true)]
theorem kit_all : ∀ p ∈ KIT, kitB p.1 (tyN p.2.1) = some p.2.2 := by decide +kernel
theorem kit_ok {T : String} {t : Ty} {b : Bool} (h : KIT.contains (T, t, b) = true) : PySem.W.kitOne K (.type T) (.type (tyN t)) = some b :=
  kit_ty (kit_all (T, t, b) (List.contains_iff_mem.mp h))
theorem isTy_ok {w : Wd} {st : Store} {H : Hp} {v : V} {x : W} (R : RS K w st H) (r : Rep K w v x) : ∃ T : String, (∀ t b, isTy st t x = some b → TyX K H v (.type T) ∧ PySem.W.kitOne K (.type T) (.type (tyN t)) = some b) := by
  have cellCase : ∀ (a : Addr) (n : Nat), w.ρ[n]? = some a → ∃ T : String, (∀ t b, isTy st t (.cell n) = some b → TyX K H (.ref a) (.type T) ∧ PySem.W.kitOne K (.type T) (.type (tyN t)) = some b) := by
    intro a n e
    dsimp only [isTy]
    cases q : st[n]? with
    | none => exact ⟨"", fun t b h => by cases h⟩
    | some c =>
      have ok := R.cells n a c e q
      cases c with
      | lst ws => obtain ⟨xs, e1, _⟩ := ok; exact ⟨"list", fun t b h => ⟨.base (.lst e1), kit_ok (by cases t <;> (cases h; decide +kernel))⟩⟩
      | dct ks vs => obtain ⟨xs, e1, _⟩ := ok; exact ⟨"dict", fun t b h => ⟨.base (.dK e1), kit_ok (by cases t <;> (cases h; decide +kernel))⟩⟩
      | dead y =>
        cases y with
        | lst ws =>
          have ok : Rep K w (.ref a) (.lst ws) := ok
          cases ok with
          | lst e1 z r => exact ⟨"list", fun t b h => ⟨.base (.lst (R.fr _ _ e1)), kit_ok (by cases t <;> (cases h; decide +kernel))⟩⟩
        | dct ks vs =>
          have ok : Rep K w (.ref a) (.dct ks vs) := ok
          generalize hd : W.dct ks vs = y at ok
          cases ok with
          | dct e1 z r => exact ⟨"dict", fun t b h => ⟨.fDict (R.fr _ _ e1), kit_ok (by cases t <;> (cases h; decide +kernel))⟩⟩
          | _ => cases hd
        | _ => exact ⟨"", fun t b h => by cases h⟩
  cases r with
  | non => exact ⟨"NoneType", fun t b h => ⟨.base .non, kit_ok (by cases t <;> (cases h; decide +kernel))⟩⟩
  | bl z => exact ⟨"bool", fun t b h => ⟨.base (.bl z), kit_ok (by cases t <;> (cases h; decide +kernel))⟩⟩
  | int z => exact ⟨"int", fun t b h => ⟨.base (.int z), kit_ok (by cases t <;> (cases h; decide +kernel))⟩⟩
  | str z => exact ⟨"str", fun t b h => ⟨.base (.str z), kit_ok (by cases t <;> (cases h; decide +kernel))⟩⟩
  | lst e z r => exact ⟨"list", fun t b h => ⟨.base (.lst (R.fr _ _ e)), kit_ok (by cases t <;> (cases h; decide +kernel))⟩⟩
  | tup e z r => exact ⟨"tuple", fun t b h => ⟨.base (.tup (R.fr _ _ e)), kit_ok (by cases t <;> (cases h; decide +kernel))⟩⟩
  | dct e z r => exact ⟨"dict", fun t b h => ⟨.fDict (R.fr _ _ e), kit_ok (by cases t <;> (cases h; decide +kernel))⟩⟩
  | cell e => exact cellCase _ _ e
  | scr e z =>
    refine ⟨"list", fun t b h => ⟨?_, kit_ok (by cases t <;> (cases h; decide +kernel))⟩⟩
    rcases SqL.le R.fr e with (e | ⟨o, e⟩) | ⟨o, its, n, e, c, _⟩
    · exact .base (.lst e)
    · exact .base (.frz e)
    · exact .kList e c
theorem isTys_ok {T : String} {st : Store} {x : W} (hk : ∀ t b, isTy st t x = some b → PySem.W.kitOne K (.type T) (.type (tyN t)) = some b) :
    ∀ (ts : List Ty) (b : Bool), isTys st ts x = some b → PySem.W.kitAny K (.type T) (ts.map fun t => .type (tyN t)) = some b
  | [], b, h => by cases h; exact kitAny_nil
  | t :: ts, b, h => by
    simp only [isTys] at h
    cases e : isTy st t x with
    | none => rw [e] at h; cases h
    | some c =>
      rw [e] at h
      cases c with
      | true => cases h; exact kitAny_cons (hk t true e) (by intro z; cases z) (by intro _; rfl)
      | false => exact kitAny_cons (hk t false e) (fun _ => isTys_ok hk ts b h) (by intro z; cases z)
/-! ### ints sorted, greatest, least -/
theorem ints_len : ∀ {ws : List W} {is : List Int}, allOpt asInt ws = some is → is.length = ws.length
  | [], is, h => by simp [allOpt] at h; subst h; rfl
  | w :: ws, is, h => by
    simp only [allOpt] at h
    cases w <;> first | (simp [asInt] at h; done) | skip
    simp only [asInt] at h
    cases q : allOpt asInt ws with
    | none => rw [q] at h; cases h
    | some js => rw [q] at h; cases h; simp [ints_len q]
theorem maxF {l : List Int} : ∀ {i m : Int}, l.foldl (fun a b => if a < b then b else a) i = m → (m = i ∨ m ∈ l) ∧ i ≤ m ∧ ∀ y ∈ l, y ≤ m := by
  induction l with
  | nil => intro i m h; subst h; exact ⟨.inl rfl, Int.le_refl _, by simp⟩
  | cons x r ih =>
    intro i m h
    obtain ⟨h1, h2, h3⟩ := ih (i := if i < x then x else i) h
    have q : i ≤ (if i < x then x else i) ∧ x ≤ (if i < x then x else i) ∧ ((if i < x then x else i) = i ∨ (if i < x then x else i) = x) := by split <;> refine ⟨by omega, by omega, by simp⟩
    refine ⟨?_, by omega, fun y hy => ?_⟩
    · rcases h1 with h1 | h1
      · rcases q.2.2 with q | q
        · left; rw [h1, q]
        · right; rw [h1, q]; simp
      · right; exact List.mem_cons_of_mem _ h1
    · rcases List.mem_cons.mp hy with z | z
      · subst z; omega
      · exact h3 y z
theorem minF {l : List Int} : ∀ {i m : Int}, l.foldl (fun a b => if b < a then b else a) i = m → (m = i ∨ m ∈ l) ∧ m ≤ i ∧ ∀ y ∈ l, m ≤ y := by
  induction l with
  | nil => intro i m h; subst h; exact ⟨.inl rfl, Int.le_refl _, by simp⟩
  | cons x r ih =>
    intro i m h
    obtain ⟨h1, h2, h3⟩ := ih (i := if x < i then x else i) h
    have q : (if x < i then x else i) ≤ i ∧ (if x < i then x else i) ≤ x ∧ ((if x < i then x else i) = i ∨ (if x < i then x else i) = x) := by split <;> refine ⟨by omega, by omega, by simp⟩
    refine ⟨?_, by omega, fun y hy => ?_⟩
    · rcases h1 with h1 | h1
      · rcases q.2.2 with q | q
        · left; rw [h1, q]
        · right; rw [h1, q]; simp
      · right; exact List.mem_cons_of_mem _ h1
    · rcases List.mem_cons.mp hy with z | z
      · subst z; omega
      · exact h3 y z
theorem maxI_ok {l : List Int} {m : Int} (h : maxI l = some m) : m ∈ l ∧ ∀ y ∈ l, y ≤ m := by
  cases l with
  | nil => cases h
  | cons i r =>
    obtain ⟨h1, h2, h3⟩ := maxF (Option.some.inj h)
    refine ⟨?_, fun y hy => ?_⟩
    · rcases h1 with h1 | h1
      · rw [h1]; simp
      · exact List.mem_cons_of_mem _ h1
    · rcases List.mem_cons.mp hy with z | z
      · subst z; exact h2
      · exact h3 y z
theorem minI_ok {l : List Int} {m : Int} (h : minI l = some m) : m ∈ l ∧ ∀ y ∈ l, m ≤ y := by
  cases l with
  | nil => cases h
  | cons i r =>
    obtain ⟨h1, h2, h3⟩ := minF (Option.some.inj h)
    refine ⟨?_, fun y hy => ?_⟩
    · rcases h1 with h1 | h1
      · rw [h1]; simp
      · exact List.mem_cons_of_mem _ h1
    · rcases List.mem_cons.mp hy with z | z
      · subst z; exact h2
      · exact h3 y z
theorem insI_perm (i : Int) : ∀ l : List Int, (insI i l).Perm (i :: l)
  | [] => .refl _
  | j :: r => by
    unfold insI
    split
    · exact ((insI_perm i r).cons j).trans (.swap i j r)
    · exact .refl _
theorem insI_sorted (i : Int) : ∀ {l : List Int}, l.Pairwise (· ≤ ·) → (insI i l).Pairwise (· ≤ ·)
  | [], _ => by simp [insI]
  | j :: r, h => by
    unfold insI
    obtain ⟨h1, h2⟩ := List.pairwise_cons.mp h
    split
    · next q =>
      refine List.pairwise_cons.mpr ⟨fun y hy => ?_, insI_sorted i h2⟩
      rcases List.mem_cons.mp ((insI_perm i r).mem_iff.mp hy) with z | z
      · subst z; exact q
      · exact h1 y z
    · next q =>
      refine List.pairwise_cons.mpr ⟨fun y hy => ?_, h⟩
      rcases List.mem_cons.mp hy with z | z
      · subst z; omega
      · have := h1 y z; omega
theorem sortF : ∀ (l acc : List Int), acc.Pairwise (· ≤ ·) → (l.foldl (fun acc i => insI i acc) acc).Pairwise (· ≤ ·) ∧ (l.foldl (fun acc i => insI i acc) acc).Perm (acc ++ l)
  | [], acc, h => by simp [h]
  | i :: r, acc, h => by
    obtain ⟨h1, h2⟩ := sortF r (insI i acc) (insI_sorted i h)
    refine ⟨h1, h2.trans ?_⟩
    refine ((insI_perm i acc).append_right r).trans ?_
    exact (List.perm_middle (l₁ := acc)).symm
theorem sortI_sorted (l : List Int) : (sortI l).Pairwise (· ≤ ·) := (sortF l [] .nil).1
theorem sortI_perm (l : List Int) : (sortI l).Perm l := (sortF l [] .nil).2
theorem sorted_one : ∀ {l l' : List Int}, l.Perm l' → l.Pairwise (· ≤ ·) → l'.Pairwise (· ≤ ·) → l = l'
  | [], l', p, _, _ => (List.nil_perm.mp p).symm
  | a :: r, [], p, _, _ => absurd (List.perm_nil.mp p) (by simp)
  | a :: r, b :: r', p, h, h' => by
    obtain ⟨h1, h2⟩ := List.pairwise_cons.mp h
    obtain ⟨h1', h2'⟩ := List.pairwise_cons.mp h'
    have e : a = b := by
      have ha := p.mem_iff.mp (List.mem_cons_self (a := a) (l := r))
      have hb := p.mem_iff.mpr (List.mem_cons_self (a := b) (l := r'))
      rcases List.mem_cons.mp ha with q | q
      · exact q
      · rcases List.mem_cons.mp hb with q' | q'
        · exact q'.symm
        · have := h1 b q'; have := h1' a q; omega
    subst e
    rw [sorted_one (List.Perm.cons_inv p) h2 h2']
/-! ### repr -/
section
variable {X : Cx}
def rRepr (K : PySem.W.Frag) : List V → Hp → VK → Prop := fun xs H Q => ∃ x d, xs = [x] ∧ Dp K H x d ∧ PyData.showable d = true ∧ PyData.hasDict d = false ∧ d.depth ≤ 64 ∧ d.shown.length ≤ sizeLine ∧ Q (.str d.shown) H
theorem call_reprD (hg : X.A.guards = some []) (hu : X.A.units + 100 < cLine) : CallR X (.builtin "repr") (rRepr X.K) := by
  intro pins s σ H xs us Q I r ⟨x, d, e, dp, hs, hd, hdp, hz, q⟩
  subst e
  obtain ⟨u, rfl, ru⟩ := vals1 r
  have fin : ∀ (h' : Heap) (z : Tok) (tk : Nat), (∀ b o, s.heap.get? b = some o → h'.get? b = some o) → EP X pins σ Q (.str d.shown z) { s with heap := h', toks := tk } := fun h' z tk k => ⟨.str d.shown, H, I.kept k, ⟨z, rfl⟩, q⟩
  have fin0 : EP X pins σ Q (.str d.shown s.toks) { s with toks := s.toks + 1 } := ⟨.str d.shown, H, I.tok _, ⟨_, rfl⟩, q⟩
  cases dp with
  | non => cases ru; exact P.repr_of_none fin0
  | bl b => cases ru; exact P.repr_of_bool fin0
  | int i => obtain ⟨t, rfl⟩ := ru; exact P.repr_of_int (by simpa [PyData.showable] using hs) fin0
  | str z => obtain ⟨t, rfl⟩ := ru; exact P.repr_of_str fin0 hz
  | lst h1 h2 =>
    have ru' := ru
    cases ru
    obtain ⟨as, rd⟩ := Dp.reads I _ _ _ (.lst h1 h2) ru'
    exact repr_of_reads' rd hs (PyData.noDict_hsm hd) hg (by omega) (fun _ _ z => z) (fun h' z tk k => fin h' z tk k) hz
  | tup h1 h2 =>
    have ru' := ru
    cases ru
    obtain ⟨as, rd⟩ := Dp.reads I _ _ _ (.tup h1 h2) ru'
    exact repr_of_reads' rd hs (PyData.noDict_hsm hd) hg (by omega) (fun _ _ z => z) (fun h' z tk k => fin h' z tk k) hz
mutual
theorem dp_noDict {H : Hp} : ∀ (d : PyData) (v : V), Dp K H v d → PyData.hasDict d = false
  | .none, _, _ => by simp only [PyData.hasDict]
  | .bool _, _, _ => by simp only [PyData.hasDict]
  | .int _, _, _ => by simp only [PyData.hasDict]
  | .str _, _, _ => by simp only [PyData.hasDict]
  | .list ds, _, .lst _ h => by simp only [PyData.hasDict]; exact dp_noDictAll ds _ h
  | .tuple ds, _, .tup _ h => by simp only [PyData.hasDict]; exact dp_noDictAll ds _ h
theorem dp_noDictAll {H : Hp} : ∀ (ds : List PyData) (vs : List V), DpAll K H vs ds → PyData.hasDictAll ds = false
  | [], _, _ => by simp only [PyData.hasDictAll]
  | d :: ds, _, .cons h t => by simp only [PyData.hasDictAll, dp_noDict d _ h, dp_noDictAll ds _ t]; rfl
end
end
/-! ### the built-ins -/
section
variable {X : Cx}
def primF (c : Bool) (p : Prim) : List W → M W := fun ws => M.bind (fun st => M.opt (primW st p ws) st) (fin c)
def primV : Prim → Value
  | .len => .builtin "len"
  | .abs => .builtin "abs"
  | .int1 => .type "int"
  | .all => .builtin "all"
  | .any => .builtin "any"
  | .sum => .builtin "sum"
  | .max1 => .builtin "max"
  | .min1 => .builtin "min"
  | .max2 => .builtin "max"
  | .min2 => .builtin "min"
  | .sorted => .builtin "sorted"
  | .list => .type "list"
  | .tuple => .type "tuple"
  | .dict => .type "dict"
  | .repr => .builtin "repr"
  | .str => .type "str"
theorem reps1 {w : Wd} {xs : List V} {x : W} (r : Reps K w xs [x]) : ∃ v, xs = [v] ∧ Rep K w v x := by
  cases r with | cons h t => cases t; exact ⟨_, rfl, h⟩
theorem reps2 {w : Wd} {xs : List V} {x y : W} (r : Reps K w xs [x, y]) : ∃ v u, xs = [v, u] ∧ Rep K w v x ∧ Rep K w u y := by
  cases r with | cons h t => cases t with | cons h' t => cases t; exact ⟨_, _, rfl, h, h'⟩
theorem call_lenRd : CallR X (.builtin "len") (fun xs H Q => ∃ (a : Addr) (kvs : List (Key × V)), xs = [V.ref a] ∧ Rd H a (.dK kvs) ∧ Q (.int kvs.length) H) := by
  intro pins s σ H xs us Q I r h
  obtain ⟨a, kvs, rfl, ha, q⟩ := h
  obtain ⟨u, rfl, ru⟩ := vals1 r
  cases ru
  exact d_len I ha fun t s' I' => ⟨.int kvs.length, H, I', ⟨t, rfl⟩, q⟩
theorem callPrim (c : Bool) (p : Prim) (hc : X.calm = true) (hg : X.A.guards = some []) (hu : X.A.units + 100 < cLine) : CallR X (primV p) (RNW X.K (primF c p)) := by
  intro pins s σ H xs us Q I r0 ⟨w, st, as, E, R, ra, h0⟩
  obtain ⟨r, e, h⟩ := (Out.bind h0).opt
  have h := h w H (Wd.Le.refl w) R
  clear h0
  have hInts : ∀ {v : V} {x : W} {ws : List W} {is : List Int}, Rep X.K w v x → asLst st x = some ws → allOpt asInt ws = some is → ∃ a, v = .ref a ∧ SqL X.K H a (is.map V.int) := by
    intro v x ws is r1 e1 e2
    obtain ⟨a, ys, rfl, hp, z, rr⟩ := asLst_ok R r1 e1
    rw [Reps.ofInts e2 rr] at hp
    exact ⟨a, rfl, SqL.of hp⟩
  have hBls : ∀ {v : V} {x : W} {ws : List W} {is : List Bool}, Rep X.K w v x → asLst st x = some ws → allOpt asBl ws = some is → ∃ a, v = .ref a ∧ SqL X.K H a (is.map V.bl) := by
    intro v x ws is r1 e1 e2
    obtain ⟨a, ys, rfl, hp, z, rr⟩ := asLst_ok R r1 e1
    rw [Reps.ofBls e2 rr] at hp
    exact ⟨a, rfl, SqL.of hp⟩
  unfold primW at e
  split at e
  · -- len of a text
    obtain ⟨v, rfl, rv⟩ := reps1 ra
    split at e
    · next hl => cases e; cases rv; exact call_len_str pins s σ H _ us Q I r0 ⟨_, rfl, lim_le hl, h.val R (by intro _ z; cases z) (.int _)⟩
    · cases e
  · obtain ⟨v, rfl, rv⟩ := reps1 ra
    split at e
    · next ws e1 =>
      cases e
      obtain ⟨a, ys, rfl, hp, z, rr⟩ := asSeq_ok R rv e1
      refine call_len_seq pins s σ H _ us Q I r0 ⟨a, ys, rfl, ?_, ?_⟩
      · rcases hp with hp | ⟨hp, _⟩
        · exact .inl hp
        · exact .inr (SqT.of hp)
      · rw [rr.length]; exact h.val R (by intro _ z; cases z) (.int _)
    · obtain ⟨d, e1, e⟩ := map_some e
      obtain ⟨ks, vs⟩ := d
      cases e
      obtain ⟨a, kvs, rfl, hp, z, k, rr⟩ := asDct_ok R rv e1
      refine call_lenRd pins s σ H _ us Q I r0 ⟨a, kvs, rfl, hp, ?_⟩
      have : kvs.length = ks.length := by rw [← k]; simp
      rw [this]
      exact h.val R (by intro _ z; cases z) (.int _)
  · obtain ⟨v, rfl, rv⟩ := reps1 ra
    cases e; cases rv
    exact call_abs pins s σ H _ us Q I r0 ⟨_, rfl, h.val R (by intro _ z; cases z) (.int _)⟩
  · obtain ⟨v, rfl, rv⟩ := reps1 ra
    cases e; cases rv
    exact call_int1 pins s σ H _ us Q I r0 (.inl ⟨_, rfl, h.val R (by intro _ z; cases z) (.int _)⟩)
  · obtain ⟨v, rfl, rv⟩ := reps1 ra
    obtain ⟨ws, e1, e⟩ := bind_some e
    obtain ⟨bs, e2, e⟩ := map_some e
    cases e
    obtain ⟨a, rfl, hp⟩ := hBls rv e1 e2
    exact cr_all hc pins s σ H _ us Q I r0 ⟨a, bs, rfl, hp, h.val R (by intro _ z; cases z) (.bl _)⟩
  · obtain ⟨v, rfl, rv⟩ := reps1 ra
    obtain ⟨ws, e1, e⟩ := bind_some e
    obtain ⟨bs, e2, e⟩ := map_some e
    cases e
    obtain ⟨a, rfl, hp⟩ := hBls rv e1 e2
    exact cr_any hc pins s σ H _ us Q I r0 ⟨a, bs, rfl, hp, h.val R (by intro _ z; cases z) (.bl _)⟩
  · obtain ⟨v, rfl, rv⟩ := reps1 ra
    obtain ⟨ws, e1, e⟩ := bind_some e
    obtain ⟨is, e2, e⟩ := map_some e
    cases e
    obtain ⟨a, rfl, hp⟩ := hInts rv e1 e2
    exact cr_sum hc pins s σ H _ us Q I r0 ⟨a, is, rfl, hp, h.val R (by intro _ z; cases z) (.int _)⟩
  · obtain ⟨v, rfl, rv⟩ := reps1 ra
    obtain ⟨ws, e1, e⟩ := bind_some e
    obtain ⟨is, e2, e⟩ := bind_some e
    obtain ⟨m, e3, e⟩ := map_some e
    cases e
    obtain ⟨a, rfl, hp⟩ := hInts rv e1 e2
    obtain ⟨m1, m2⟩ := maxI_ok e3
    refine cr_max hc pins s σ H _ us Q I r0 ⟨a, is, rfl, hp, List.length_pos_of_mem m1, fun m' h1 h2 => ?_⟩
    have : m' = m := by have := h2 m m1; have := m2 m' h1; omega
    rw [this]; exact h.val R (by intro _ z; cases z) (.int _)
  · obtain ⟨v, rfl, rv⟩ := reps1 ra
    obtain ⟨ws, e1, e⟩ := bind_some e
    obtain ⟨is, e2, e⟩ := bind_some e
    obtain ⟨m, e3, e⟩ := map_some e
    cases e
    obtain ⟨a, rfl, hp⟩ := hInts rv e1 e2
    obtain ⟨m1, m2⟩ := minI_ok e3
    refine cr_min hc pins s σ H _ us Q I r0 ⟨a, is, rfl, hp, List.length_pos_of_mem m1, fun m' h1 h2 => ?_⟩
    have : m' = m := by have := h2 m m1; have := m2 m' h1; omega
    rw [this]; exact h.val R (by intro _ z; cases z) (.int _)
  · obtain ⟨v, u, rfl, rv, ru⟩ := reps2 ra
    cases e; cases rv; cases ru
    exact call_max2 hc pins s σ H _ us Q I r0 ⟨_, _, rfl, h.val R (by intro _ z; cases z) (.int _)⟩
  · obtain ⟨v, u, rfl, rv, ru⟩ := reps2 ra
    cases e; cases rv; cases ru
    exact call_min2 hc pins s σ H _ us Q I r0 ⟨_, _, rfl, h.val R (by intro _ z; cases z) (.int _)⟩
  · obtain ⟨v, rfl, rv⟩ := reps1 ra
    obtain ⟨ws, e1, e⟩ := bind_some e
    obtain ⟨is, e2, rfl⟩ := map_some e
    have hz : is.length ≤ sizeLine := by
      obtain ⟨p, xs, _, _, z, rr⟩ := asLst_ok R rv e1
      have e3 : is.length = ws.length := ints_len e2
      rw [e3, ← rr.length]; exact z
    obtain ⟨a, rfl, hp⟩ := hInts rv e1 e2
    refine cr_sortedI pins s σ H _ us Q I r0 ⟨a, is, rfl, hp, fun ns' q h1 h2 hq => ?_⟩
    have : ns' = sortI is := sorted_one (h1.trans (sortI_perm is).symm) h2 (sortI_sorted is)
    subst this
    refine h.laid R hq ?_ (Reps.ints _)
    rw [List.length_map, h1.length_eq]
    exact hz
  · obtain ⟨v, rfl, rv⟩ := reps1 ra
    obtain ⟨ws, e1, e⟩ := map_some e
    cases e
    obtain ⟨a, ys, rfl, hp, z, rr⟩ := asSeq_ok R rv e1
    refine call_list_of pins s σ H _ us Q I r0 ⟨a, ys, rfl, ?_, fun q hq => h.laid R hq z rr⟩
    rcases hp with hp | ⟨hp, _⟩
    · exact .inl hp
    · exact .inr (SqT.of hp)
  · obtain ⟨v, rfl, rv⟩ := reps1 ra
    obtain ⟨ws, e1, e⟩ := map_some e
    cases e
    obtain ⟨a, ys, rfl, hp, z, rr⟩ := asSeq_ok R rv e1
    refine call_tuple_of pins s σ H _ us Q I r0 ⟨a, ys, rfl, ?_⟩
    rcases hp with hp | ⟨hp, hx⟩
    · exact .inl ⟨hp, fun q hq => h.laidT R hq z rr⟩
    · subst hx; exact .inr ⟨SqT.of hp, h.val R (by intro _ z; cases z) rv⟩
  · obtain ⟨v, rfl, rv⟩ := reps1 ra
    obtain ⟨d, e1, e⟩ := bind_some e
    split at e
    · next hl =>
      simp only [Bool.and_eq_true, decide_eq_true_eq] at hl
      cases e
      have dp := data_ok R _ _ _ _ rv e1
      exact call_reprD hg hu pins s σ H _ us Q I r0 ⟨v, d, rfl, dp, hl.1.1, dp_noDict d v dp, hl.1.2, lim_le hl.2, h.val R (by intro _ z; cases z) (.str _)⟩
    · cases e
  · obtain ⟨v, rfl, rv⟩ := reps1 ra
    split at e
    · next hl => cases e; cases rv; exact call_str_int pins s σ H _ us Q I r0 ⟨_, rfl, hl, h.val R (by intro _ z; cases z) (.str _)⟩
    · cases e
  · obtain ⟨v, rfl, rv⟩ := reps1 ra
    cases e; cases rv
    exact SkE.call_str_str pins s σ H _ us Q I r0 ⟨_, rfl, h.val R (by intro _ z; cases z) (.str _)⟩
  · cases e
end
end MP
/-! MP5: the own syntax held against the model's. -/
namespace MP
open PySem PySem.Spec PyProof.Rows L2
/-! ### what is static -/
structure SC where
  N : List Str
  sc : Scope
  fn : Str → Bool
structure PT0 where
  prog : List Fn
  kb : List (Nat × Nat × List Str × List Nat)
  clName : Nat → Str
def visB (sc : Scope) (x : Str) : Bool := match sc.names.lookup x with
  | some .local => true
  | some .cell => true
  | some .free => true
  | _ => false
def glB (sc : Scope) (x : Str) : Bool := match sc.names.lookup x with
  | some .globalImplicit => true
  | _ => false
def locB (c : SC) (x : Str) : Bool := match c.sc.names.lookup x with
  | some .local => true
  | some .cell => c.fn x
  | _ => false
def opB : Op → Operator → Bool
  | .add, .Add => true
  | .sub, .Sub => true
  | .mul, .Mult => true
  | .fdiv, .FloorDiv => true
  | .mod, .Mod => true
  | .pow, .Pow => true
  | _, _ => false
def cmpB : Cmp → CmpOp → Bool
  | .eq, .Eq => true
  | .ne, .NotEq => true
  | .lt, .Lt => true
  | .le, .LtE => true
  | .gt, .Gt => true
  | .ge, .GtE => true
  | .isn, .Is => true
  | .notn, .IsNot => true
  | .inn, .In => true
  | .notin, .NotIn => true
  | _, _ => false
def primN : Prim → Str
  | .len => "len"
  | .abs => "abs"
  | .int1 => "int"
  | .all => "all"
  | .any => "any"
  | .sum => "sum"
  | .max1 => "max"
  | .min1 => "min"
  | .max2 => "max"
  | .min2 => "min"
  | .sorted => "sorted"
  | .list => "list"
  | .tuple => "tuple"
  | .dict => "dict"
  | .repr => "repr"
  | .str => "str"
def mthN : Mth → Str
  | .append => "append"
  | .extend => "extend"
  | .pop => "pop"
  | .popAt => "pop"
  | .get => "get"
  | .index => "index"
  | .count => "count"
  | .copy => "copy"
  | .remove => "remove"
  | .update => "update"
  | .join => "join"
  | .split => "split"
  | .clear => "clear"
def tyS : Ty → Str
  | .bool => "bool"
  | .int => "int"
  | .str => "str"
  | .list => "list"
  | .tuple => "tuple"
  | .dict => "dict"
def setB : Expr → Bool
  | .Set _ _ _ => true
  | _ => false
def sliceB : Expr → Bool
  | .Slice _ _ _ _ => true
  | _ => false
def starB : Expr → Bool
  | .Starred _ _ => true
  | _ => false
/-- what a method may be called of -/
def baseB : Expr → Bool
  | .Call _ _ _ _ => false
  | _ => true
def compB : Expr → Bool
  | .ListComp _ _ _ _ => true
  | .SetComp _ _ _ _ => true
  | .DictComp _ _ _ _ _ => true
  | _ => false
def mthDone : Mth → Bool
  | .append | .extend | .pop | .popAt => true
  | _ => false
mutual
def Tg.slots : Tg → List Nat
  | .name i => [i]
  | .tup ts => ts.slots
  | .sub _ _ => []
def Tgs.slots : Tgs → List Nat
  | .nil => []
  | .cons t ts => t.slots ++ ts.slots
end
def tyNames (sc : Scope) : List Ty → List Expr → Bool
  | [], [] => true
  | t :: ts, .Name x _ :: es => decide (x = tyS t) && glB sc x && tyNames sc ts es
  | _, _ => false
def ownOf (N : List Str) (own : List Nat) : List (Str × Nat) := own.map fun i => (N.getD i Str.empty, i)
def blkSC (c : SC) (scope : Scope) : SC := ⟨c.N, L2.relS scope c.sc, fun x => scope.names.lookup x == some .cell⟩
section
variable (T : PT0)
mutual
def mtE (c : SC) : E → Expr → Bool
  | .var i, e => match e with
    | .Name x _ => decide (c.N[i]? = some x) && visB c.sc x && !(x == ("__debug__" : Str)) && !(x == ("__classdict__" : Str))
    | _ => false
  | .non, e => match e with
    | .Constant .none _ _ => true
    | _ => false
  | .bl b, e => match e with
    | .Constant (.bool b') _ _ => b == b'
    | _ => false
  | .int n, e => match e with
    | .Constant (.int n') _ _ => decide (n = n')
    | _ => false
  | .str s, e => match e with
    | .Constant (.str s') _ _ => decide (s = s')
    | _ => false
  | .lst _ es, e => match e with
    | .List elts _ => mtEs c es elts
    | _ => false
  | .tup es, e => match e with
    | .Tuple elts _ _ => mtEs c es elts
    | _ => false
  | .dct _ _ _, _ => false
  | .bin _ op a b, e => match e with
    | .BinOp l o r _ => opB op o && mtE c a l && mtE c b r
    | _ => false
  | .neg a, e => match e with
    | .UnaryOp .USub x _ => mtE c a x
    | _ => false
  | .not a, e => match e with
    | .UnaryOp .Not x _ => mtE c a x
    | _ => false
  | .and a b, e => match e with
    | .BoolOp .And [x, y] _ => mtE c a x && mtE c b y
    | .BoolOp .And (x :: y :: z :: r) pos => mtE c a x && mtE c b (.BoolOp .And (y :: z :: r) pos)
    | _ => false
  | .or a b, e => match e with
    | .BoolOp .Or [x, y] _ => mtE c a x && mtE c b y
    | .BoolOp .Or (x :: y :: z :: r) pos => mtE c a x && mtE c b (.BoolOp .Or (y :: z :: r) pos)
    | _ => false
  | .cmp op a b, e => match e with
    | .Compare l [o] [r] _ => cmpB op o && mtE c a l && mtE c b r && !setB r
    | _ => false
  | .chain o1 o2 a b d, e => match e with
    | .Compare l [p, q] [r, r'] _ => cmpB o1 p && cmpB o2 q && mtE c a l && mtE c b r && mtE c d r' && !setB r'
    | _ => false
  | .ife d a b, e => match e with
    | .IfExp t x y _ => mtE c d t && mtE c a x && mtE c b y
    | _ => false
  | .isi t a, e => match e with
    | .Call (.Name f _) [x, .Name y _] [] _ => decide (f = ("isinstance" : Str)) && glB c.sc f && decide (y = tyS t) && glB c.sc y && mtE c a x && !starB x
    | _ => false
  | .isiT ts a, e => match e with
    | .Call (.Name f _) [x, .Tuple ns _ _] [] _ => decide (f = ("isinstance" : Str)) && glB c.sc f && decide (ts.length < 20) && !ts.isEmpty && tyNames c.sc ts ns && mtE c a x && !starB x
    | _ => false
  | .call f es ks, e => match e with
    | .Call (.Name x _) args kws _ => (match find T.prog f with | some d => decide (x = d.name) | none => false) && glB c.sc x && !(x == ("__debug__" : Str)) && mtEs c es args && !args.any starB && kws.isEmpty && ks.isEmpty
    | _ => false
  | .callK f es kes ks, e => match e with
    | .Call (.Name x _) args (kw :: kws) _ => (match find T.prog f with | some d => decide (x = d.name) | none => false) && glB c.sc x && !(x == ("__debug__" : Str)) && mtEs c es args && !args.any starB && mtEs c kes ((kw :: kws).map Keyword.value) && !((kw :: kws).map Keyword.value).any starB && (kw :: kws).all (fun q => q.arg.isSome) && T.kb.contains (f, args.length, (kw :: kws).filterMap (fun q => q.arg), ks)
    | _ => false
  | .bi _ p es, e => match e with
    | .Call (.Name x _) (a :: args) [] _ => decide (x = primN p) && glB c.sc x && mtEs c es (a :: args) && !(a :: args).any starB
    | _ => false
  | .mt m o es, e => match e with
    | .Call (.Attribute x name apos) args [] cpos => mthDone m && decide (name = mthN m) && baseB x && (apos.endLine == cpos.line) && decide (args.length < 20) && mtE c o x && mtEs c es args && !args.any starB
    | _ => false
  | .sub a i, e => match e with
    | .Subscript x y _ => mtE c a x && mtE c i y && !sliceB y
    | _ => false
  | .slice _ a lo hi, e => match e with
    | .Subscript x (.Slice l u none _) _ => mtE c a x && mtO c lo l && mtO c hi u
    | _ => false
  | .lrange1 _ a, e => match e with
    | .Call (.Name f _) [.Call (.Name g _) [x] [] _] [] _ => decide (f = ("list" : Str)) && glB c.sc f && decide (g = ("range" : Str)) && glB c.sc g && mtE c a x && !starB x
    | _ => false
  | .lrange2 _ a b, e => match e with
    | .Call (.Name f _) [.Call (.Name g _) [x, y] [] _] [] _ => decide (f = ("list" : Str)) && glB c.sc f && decide (g = ("range" : Str)) && glB c.sc g && mtE c a x && mtE c b y && !starB x && !starB y
    | _ => false
  | .lc _ own t it cond elt, e => match e with
    | .ListComp el [⟨tg, iter, ifs, 0⟩] scope _ => mtIt c it tg iter && !setB iter && t.slots.all (fun i => own.contains i) && L2.blkC c.N c.sc scope (ownOf c.N own) && mtT (blkSC c scope) t tg && mtC (blkSC c scope) cond ifs && mtE (blkSC c scope) elt el
    | _ => false
  | .dc _ _ _ _ _ _ _, _ => false
  | .fz a, e => mtE c a e
  | .never, _ => true
def mtEs (c : SC) : Es → List Expr → Bool
  | .nil, es => es.isEmpty
  | .cons m ms, es => match es with
    | e :: r => !starB e && mtE c m e && mtEs c ms r
    | [] => false
  | .star m ms, es => match es with
    | .Starred e _ :: r => mtE c m e && mtEs c ms r
    | _ => false
def mtO (c : SC) : Oe → Option Expr → Bool
  | .none, e => e.isNone
  | .some m, e => match e with
    | some e => mtE c m e
    | none => false
def mtC (c : SC) : Oe → List Expr → Bool
  | .none, es => es.isEmpty
  | .some m, es => match es with
    | [e] => mtE c m e
    | _ => false
def mtIt (c : SC) : It → Expr → Expr → Bool
  | .seq m, _, e => mtE c m e && !setB e
  | .range es, _, e => match e with
    | .Call (.Name x _) args [] _ => decide (x = ("range" : Str)) && glB c.sc x && mtEs c es args && !args.any starB && decide (0 < args.length) && decide (args.length ≤ 3)
    | _ => false
  | .enum m, tg, e => match tg, e with
    | .Tuple _ _ _, .Call (.Name x _) [a] [] _ => decide (x = ("enumerate" : Str)) && glB c.sc x && mtE c m a && !starB a
    | _, _ => false
  | .enumK m n, tg, e => match tg, e with
    | .Tuple _ _ _, .Call (.Name x _) [a, b] [] _ => decide (x = ("enumerate" : Str)) && glB c.sc x && mtE c m a && mtE c n b && !starB a && !starB b
    | _, _ => false
  | .zip m n, tg, e => match tg, e with
    | .Tuple _ _ _, .Call (.Name x _) [a, b] [] _ => decide (x = ("zip" : Str)) && glB c.sc x && mtE c m a && mtE c n b && !starB a && !starB b
    | _, _ => false
  | .items _, _, _ => false
def mtT (c : SC) : Tg → Expr → Bool
  | .name i, e => match e with
    | .Name x _ => decide (c.N[i]? = some x) && locB c x
    | _ => false
  | .tup ts, e => match e with
    | .Tuple es _ _ => mtTs c ts es
    | _ => false
  | .sub o i, e => match e with
    | .Subscript x y _ => mtE c o x && mtE c i y && !sliceB y
    | _ => false
def mtTs (c : SC) : Tgs → List Expr → Bool
  | .nil, es => es.isEmpty
  | .cons t ts, es => match es with
    | e :: r => !starB e && mtT c t e && mtTs c ts r
    | [] => false
end
end
end MP
/-! MP6: expressions do what the evaluator says. -/
namespace MP
open PySem PySem.Spec PyProof.Rows L2
structure Gl0 where
  T : PT0
  cl : Nat → Addr
  fld : Nat → Str
  fa : Nat → Addr
  fdn : Nat → FuncData
  wf : Nat
abbrev Gl0.prog (Γ : Gl0) : List Fn := Γ.T.prog
variable (Γ : Gl0) (K : PySem.W.Frag)
def EX (W : WX) (σ : L2.St) : Wd → Hp → Store → Nat → MP.W → Prop := fun w' H' _ c x => ∀ d v, w'.F d = some (.xd [(Γ.fld c, v)]) → Rep K w' v x → W (.ref (Γ.cl c)) (some d) σ H'
/-- a def's promise -/
def spW (m : List MP.W → M MP.W) : Sp := fun vs H Q E => ∃ w st as, RS K w st H ∧ Reps K w vs as ∧ Out K (m as st) w (RV (K := K) Q) (fun w' H' _ c x => ∀ d v, w'.F d = some (.xd [(Γ.fld c, v)]) → Rep K w' v x → E (.ref (Γ.cl c)) (some d) H')
def FnG (P : Program) (w : World) (K : PySem.W.Frag) (mg : Str → Option Value) (base : Heap) (k : Nat) (d : Fn) : Prop :=
  ∀ (A : Around) (outer : List Env) (s : Shared) (H : Hp) (args : Args) (us : List Value) (vs : List V) (Q : VK) (E : XK), Room k A → A.guards = some [] → Env0 P w K mg base A outer s H → BindsTo s (Γ.fdn d.id) args ((d.N.take d.np).zip us) → Vals vs us → us.length = d.np →
    spW Γ K (callN Γ.prog Γ.wf k d.id) vs H Q E → codeAny (model P w) A (.call (.ref (Γ.fa d.id)) args) (CR (L2.CX P w) outer P w H s Q E) s
def BI : List Str := ["len", "abs", "int", "all", "any", "sum", "max", "min", "sorted", "list", "tuple", "dict", "repr", "str", "range", "enumerate", "zip", "isinstance", "bool"]
structure GOk (mg : Str → Option Value) : Prop where
  at_ : ∀ d ∈ Γ.prog, mg d.name = some (.ref (Γ.fa d.id)) ∧ PySem.W.keepIn K (.ref (Γ.fa d.id)) = true
  bind : ∀ d ∈ Γ.prog, ∀ (s : Shared) (us : List Value), us.length = d.np → BindsTo s (Γ.fdn d.id) ⟨us, []⟩ ((d.N.take d.np).zip us)
  bi : ∀ x ∈ BI, mg x = none
  kbind : ∀ e ∈ Γ.T.kb, ∀ d, find Γ.prog e.1 = some d → ∀ (s : Shared) (us ws : List Value), us.length = e.2.1 → ws.length = e.2.2.1.length → ∃ vs, allOpt (fun i => (us ++ ws)[i]?) e.2.2.2 = some vs ∧ BindsTo s (Γ.fdn d.id) ⟨us, e.2.2.1.zip ws⟩ ((d.N.take d.np).zip vs)
structure XOk (k : Nat) (c : SC) (X : Cx) (W : WX) : Prop where
  gok : GOk Γ X.K X.mg
  fns : ∀ d ∈ Γ.prog, FnG Γ X.prog X.w X.K X.mg X.base k d
  hN : X.N = c.N
  nd : c.N.Nodup
  hsc : X.env.scope = c.sc
  hfn : X.fn = c.fn
  calm : X.calm = true
  room : Room k X.A
  gd : X.A.guards = some []
  tk : Takes X W
  pso : PassesOwn (model X.prog X.w) X.A X.env X.xe
def TE1 (W : WX) (m : Slots → M MP.W) : TE := fun σ H Q => ∃ w sl st, RS K w st H ∧ SlR K w σ sl ∧ Out K (m sl st) w (RV (K := K) Q) (EX Γ K W σ)
def TT1 (W : WX) (m : Slots → M MP.W) : TT := fun σ H Q => ∃ w sl st, RS K w st H ∧ SlR K w σ sl ∧ Out K (m sl st) w (fun _ H' _ r => ∃ b, r = .bl b ∧ Q b H') (EX Γ K W σ)
def TA1 (W : WX) (m : Slots → M (List MP.W)) : TA := fun σ H Q => ∃ w sl st, RS K w st H ∧ SlR K w σ sl ∧ Out K (m sl st) w (fun w' H' _ r => ∀ vs, Reps K w' vs r → Q vs H') (EX Γ K W σ)
def TO1 (W : WX) (m : Slots → M (Option Int)) : TO := fun σ H Q => ∃ w sl st, RS K w st H ∧ SlR K w σ sl ∧ Out K (m sl st) w (fun _ H' _ r => Q r H') (EX Γ K W σ)
variable {Γ} {K}
section
variable {X : Cx} {e : Expr}
theorem PE_mono {t t' : TE} (h : PE X e t) (hh : ∀ σ H Q, t' σ H Q → t σ H Q) : PE X e t' := ⟨fun pins s σ H Q I q => h.run pins s σ H Q I (hh σ H Q q)⟩
theorem PT_mono {t t' : TT} (h : PT X e t) (hh : ∀ σ H Q, t' σ H Q → t σ H Q) : PT X e t' := ⟨fun pins s σ H Q I q => h.run pins s σ H Q I (hh σ H Q q)⟩
theorem PA_mono {es : List Expr} {t t' : TA} (h : PA X es t) (hh : ∀ σ H Q, t' σ H Q → t σ H Q) : PA X es t' := ⟨fun pos pins s σ H Q I q => h.run pos pins s σ H Q I (hh σ H Q q)⟩
theorem PO_mono {o : Option Expr} {t t' : TO} (h : PO X o t) (hh : ∀ σ H Q, t' σ H Q → t σ H Q) : PO X o t' := ⟨fun pins s σ H Q I q => h.run pins s σ H Q I (hh σ H Q q)⟩
/-- nothing is said of it -/
theorem PE_false {t : TE} (h : ∀ σ H Q, ¬ t σ H Q) : PE X e t := ⟨fun pins s σ H Q I q => absurd q (h σ H Q)⟩
theorem PT_false {t : TT} (h : ∀ σ H Q, ¬ t σ H Q) : PT X e t := ⟨fun pins s σ H Q I q => absurd q (h σ H Q)⟩
end
/-- a test by its value -/
theorem pt_of {X : Cx} {W : WX} {m : Slots → M MP.W} {e : Expr} (h : PE X e (TE1 Γ X.K W m)) (he : ∀ whole, isTrue e X.env whole = (do let v ← whole; standAt e.pos; holding [v] (truthy v))) : PT X e (TT1 Γ X.K W m) := by
  refine PT_mono (pt_val h he) ?_
  rintro σ H Q ⟨w, sl, st, R, S, q⟩
  refine ⟨w, sl, st, R, S, q.imp (fun w' H' st' a l R' q v r => ?_) fun _ _ _ _ _ _ _ q => q⟩
  obtain ⟨b, rfl, q⟩ := q
  cases r
  exact ⟨b, rfl, q⟩
section
variable {k : Nat} {c : SC} {X : Cx} {W : WX}
/-- one after another, in one world -/
theorem chain1 {m : Slots → M MP.W} {σ : L2.St} {H : Hp} {w : Wd} {sl : Slots} {st : Store} {β : Type} {f : MP.W → M β} {R : Wd → Hp → Store → β → Prop} {Q : VK} (R0 : RS X.K w st H) (S : SlR X.K w σ sl)
    (h : Out X.K (M.bind (m sl) f st) w R (EX Γ X.K W σ))
    (hq : ∀ w' H' st' a v, w.Le w' → RS X.K w' st' H' → Rep X.K w' v a → Out X.K (f a st') w' R (EX Γ X.K W σ) → Q v H') : TE1 Γ X.K W m σ H Q :=
  ⟨w, sl, st, R0, S, (Out.bind h).imp (fun w' H' st' a l R' q v r => hq w' H' st' a v l R' r q) fun _ _ _ _ _ _ _ q => q⟩
theorem op2 {F : MP.W → MP.W → M MP.W} {ma mb : Slots → M MP.W} {σ : L2.St} {H : Hp} {Q : VK}
    (h : TE1 Γ X.K W (fun sl => M.bind (ma sl) fun x => M.bind (mb sl) fun y => F x y) σ H Q) : tOp (R2W X.K F) (TE1 Γ X.K W ma) (TE1 Γ X.K W mb) σ H Q := by
  obtain ⟨w, sl, st, R, S, h⟩ := h
  refine chain1 R S h fun w1 H1 st1 a v l1 R1 r1 q => ?_
  refine chain1 R1 (S.le l1) q fun w2 H2 st2 b u l2 R2 r2 q2 => ?_
  exact ⟨w2, st2, a, b, _, R2, r1.le l2, r2, q2⟩
theorem opB_ok {op : Op} {o : Operator} (h : opB op o = true) : o = opP op := by cases op <;> cases o <;> first | rfl | cases h
theorem cmpB_ok {op : Cmp} {o : CmpOp} (h : cmpB op o = true) : o = cmpP op := by cases op <;> cases o <;> first | rfl | cases h
theorem marks {op : CmpOp} {r : Expr} (h : setB r = false) : behindInMarks op r = false := by cases r <;> first | rfl | cases h
theorem RMU {k : Nat} {A : Around} (h : Room k A) : A.units + 100 < cLine := by have := h.un; omega

/-! ### the forms, one by one -/
theorem k_var {i : Nat} {x : Str} {pos : Pos} (hx : XOk Γ k c X W) (h1 : c.N[i]? = some x) (h2 : visB c.sc x = true) (h3 : (x == ("__debug__" : Str)) = false) (h4 : (x == ("__classdict__" : Str)) = false) :
    PE X (.Name x pos) (TE1 Γ X.K W (evE (callN Γ.prog Γ.wf k) (.var i))) := by
  have hv : Vis X.env.scope x := by
    rw [hx.hsc]; unfold visB at h2; unfold Vis
    split at h2 <;> simp_all
  refine PE_mono (pe_var (i := i) (by rw [hx.hN]; exact h1) hv h3 h4) ?_
  rintro σ H Q ⟨w, sl, st, R, S, q⟩
  dsimp only [evE] at q
  split at q
  · next a e =>
    obtain ⟨v, e', r⟩ := S.at_ _ _ e
    exact ⟨v, e', q w H (Wd.Le.refl w) R v r⟩
  · exact False.elim q
theorem k_const {e : Expr} {v : V} {a : MP.W} {m : E} (hp : PE X e (tC v)) (hm : ∀ sl, evE (callN Γ.prog Γ.wf k) m sl = M.ret a) (hr : ∀ w, Rep X.K w v a) : PE X e (TE1 Γ X.K W (evE (callN Γ.prog Γ.wf k) m)) := by
  refine PE_mono hp ?_
  rintro σ H Q ⟨w, sl, st, R, S, q⟩
  rw [hm] at q
  exact q w H (Wd.Le.refl w) R v (hr w)
theorem fin_mk (b : Bool) (ws : List MP.W) : mkLst b ws = fin b (.lst ws) := by cases b <;> rfl
theorem k_lst {b : Bool} {es : Es} {elts : List Expr} {pos : Pos} (h : PA X elts (TA1 Γ X.K W (evEs (callN Γ.prog Γ.wf k) es))) : PE X (.List elts pos) (TE1 Γ X.K W (evE (callN Γ.prog Γ.wf k) (.lst b es))) := by
  refine PE_mono (pe_lst h) ?_
  rintro σ H Q ⟨w, sl, st, R, S, q⟩
  dsimp only [evE] at q
  refine ⟨w, sl, st, R, S, (Out.bind q).imp (fun w' H' st' ws l R' q vs r => ?_) fun _ _ _ _ _ _ _ q => q⟩
  split at q
  · next hl =>
    rw [fin_mk] at q
    have hz : vs.length ≤ sizeLine := by rw [r.length]; exact lim_le hl
    exact ⟨hz, fun p hp => q.laid R' hp hz r⟩
  · exact False.elim q
theorem k_tup {es : Es} {elts : List Expr} {pos : Pos} {j : Nat} (h : PA X elts (TA1 Γ X.K W (evEs (callN Γ.prog Γ.wf k) es))) : PE X (.Tuple elts j pos) (TE1 Γ X.K W (evE (callN Γ.prog Γ.wf k) (.tup es))) := by
  refine PE_mono (pe_tup h) ?_
  rintro σ H Q ⟨w, sl, st, R, S, q⟩
  dsimp only [evE] at q
  refine ⟨w, sl, st, R, S, (Out.bind q).imp (fun w' H' st' ws l R' q vs r => ?_) fun _ _ _ _ _ _ _ q => q⟩
  split at q
  · next hl =>
    have hz : vs.length ≤ sizeLine := by rw [r.length]; exact lim_le hl
    exact ⟨hz, fun p hp => Out.laidT (c := false) R' hp hz r q⟩
  · exact False.elim q
theorem k_bin {b : Bool} {op : Op} {ea eb : E} {x y : Expr} {pos : Pos} (ha : PE X x (TE1 Γ X.K W (evE (callN Γ.prog Γ.wf k) ea))) (hb : PE X y (TE1 Γ X.K W (evE (callN Γ.prog Γ.wf k) eb))) :
    PE X (.BinOp x (opP op) y pos) (TE1 Γ X.K W (evE (callN Γ.prog Γ.wf k) (.bin b op ea eb))) :=
  PE_mono (pe_op (opBin b op) ha hb) fun σ H Q q => op2 (F := binF b op) q
theorem k_cmp {op : Cmp} {ea eb : E} {x y : Expr} {pos : Pos} (hx : XOk Γ k c X W) (hm : setB y = false) (ha : PE X x (TE1 Γ X.K W (evE (callN Γ.prog Γ.wf k) ea))) (hb : PE X y (TE1 Γ X.K W (evE (callN Γ.prog Γ.wf k) eb))) :
    PE X (.Compare x [cmpP op] [y] pos) (TE1 Γ X.K W (evE (callN Γ.prog Γ.wf k) (.cmp op ea eb))) :=
  PE_mono (pe_cmpR (opCmp op (RMU hx.room)) ha hb (marks hm)) fun σ H Q q => op2 (F := cmpF op) q
theorem tOp_bl {op : Cmp} {ta tb : TE} {σ : L2.St} {H : Hp} {Q : VK} (h : tOp (R2W X.K (cmpF op)) ta tb σ H Q) (mono : ∀ {t : TE} {σ H} {Q Q' : VK}, (t = ta ∨ t = tb) → (∀ v H, Q v H → Q' v H) → t σ H Q → t σ H Q') : tOp (R2W X.K (cmpF op)) ta tb σ H Q := h
theorem kt_cmp {op : Cmp} {ea eb : E} {x y : Expr} {pos : Pos} (hx : XOk Γ k c X W) (hm : setB y = false) (ha : PE X x (TE1 Γ X.K W (evE (callN Γ.prog Γ.wf k) ea))) (hb : PE X y (TE1 Γ X.K W (evE (callN Γ.prog Γ.wf k) eb))) :
    PT X (.Compare x [cmpP op] [y] pos) (TT1 Γ X.K W (evE (callN Γ.prog Γ.wf k) (.cmp op ea eb))) := by
  refine PT_mono (pt_cmpR (opCmp op (RMU hx.room)) ha hb (marks hm)) ?_
  rintro σ H Q ⟨w, sl, st, R, S, q⟩
  refine op2 (F := cmpF op) ⟨w, sl, st, R, S, Out.imp q (fun w' H' st' a l R' q v r => ?_) fun _ _ _ _ _ _ _ q => q⟩
  obtain ⟨b, rfl, q⟩ := q
  cases r
  exact ⟨b, rfl, q⟩
theorem k_neg {ea : E} {x : Expr} {pos : Pos} (ha : PE X x (TE1 Γ X.K W (evE (callN Γ.prog Γ.wf k) ea))) : PE X (.UnaryOp .USub x pos) (TE1 Γ X.K W (evE (callN Γ.prog Γ.wf k) (.neg ea))) := by
  refine PE_mono (pe_un un_neg ha) ?_
  rintro σ H Q ⟨w, sl, st, R, S, q⟩
  dsimp only [evE] at q
  refine chain1 R S q fun w1 H1 st1 a v l1 R1 r1 q => ?_
  obtain ⟨z, e, q⟩ := q.opt
  obtain ⟨i, e1, rfl⟩ := map_some e
  exact ⟨i, asInt_ok r1 e1, q w1 H1 (Wd.Le.refl _) R1 _ (.int _)⟩
/-- tests -/
theorem k_not {ea : E} {x : Expr} {pos : Pos} (ha : PE X x (TE1 Γ X.K W (evE (callN Γ.prog Γ.wf k) ea))) : PE X (.UnaryOp .Not x pos) (TE1 Γ X.K W (evE (callN Γ.prog Γ.wf k) (.not ea))) := by
  refine PE_mono (pe_not ha) ?_
  rintro σ H Q ⟨w, sl, st, R, S, q⟩
  dsimp only [evE] at q
  refine chain1 R S q fun w1 H1 st1 a v l1 R1 r1 q => ?_
  obtain ⟨z, e, q⟩ := q.opt
  obtain ⟨i, e1, rfl⟩ := map_some e
  exact ⟨i, asBl_ok r1 e1, q w1 H1 (Wd.Le.refl _) R1 _ (.bl _)⟩
theorem chainT {m : Slots → M MP.W} {σ : L2.St} {H : Hp} {w : Wd} {sl : Slots} {st : Store} {β : Type} {f : MP.W → M β} {R : Wd → Hp → Store → β → Prop} {Q : Bool → Hp → Prop} (R0 : RS X.K w st H) (S : SlR X.K w σ sl)
    (h : Out X.K (M.bind (m sl) f st) w R (EX Γ X.K W σ))
    (hq : ∀ w' H' st' a, w.Le w' → RS X.K w' st' H' → Out X.K (f a st') w' R (EX Γ X.K W σ) → ∃ b, a = .bl b ∧ Q b H') : TT1 Γ X.K W m σ H Q :=
  ⟨w, sl, st, R0, S, (Out.bind h).imp (fun w' H' st' a l R' q => hq w' H' st' a l R' q) fun _ _ _ _ _ _ _ q => q⟩
theorem kt_not {ea : E} {x : Expr} {pos : Pos} (ha : PT X x (TT1 Γ X.K W (evE (callN Γ.prog Γ.wf k) ea))) : PT X (.UnaryOp .Not x pos) (TT1 Γ X.K W (evE (callN Γ.prog Γ.wf k) (.not ea))) := by
  refine PT_mono (pt_not ha) ?_
  rintro σ H Q ⟨w, sl, st, R, S, q⟩
  dsimp only [evE] at q
  refine chainT R S q fun w1 H1 st1 a l1 R1 q => ?_
  obtain ⟨z, e, q⟩ := q.opt
  obtain ⟨i, e1, rfl⟩ := map_some e
  obtain ⟨b, e2, q2⟩ := q w1 H1 (Wd.Le.refl _) R1
  cases e2
  cases a <;> first | (cases e1; done) | skip
  cases e1
  exact ⟨i, rfl, q2⟩
theorem k_and {ea eb : E} {x y : Expr} {r : List Expr} {pos : Pos} (ha : PE X x (TE1 Γ X.K W (evE (callN Γ.prog Γ.wf k) ea))) (hb : PE X (.BoolOp .And (y :: r) pos) (TE1 Γ X.K W (evE (callN Γ.prog Γ.wf k) eb))) :
    PE X (.BoolOp .And (x :: y :: r) pos) (TE1 Γ X.K W (evE (callN Γ.prog Γ.wf k) (.and ea eb))) := by
  refine PE_mono (pe_and ha hb) ?_
  rintro σ H Q ⟨w, sl, st, R, S, q⟩
  dsimp only [evE] at q
  refine chain1 R S q fun w1 H1 st1 a v l1 R1 r1 q => ?_
  split at q
  · cases r1; exact ⟨true, rfl, by rw [if_pos rfl]; exact ⟨w1, sl, st1, R1, S.le l1, q⟩⟩
  · cases r1; exact ⟨false, rfl, by rw [if_neg (by decide)]; exact q w1 H1 (Wd.Le.refl _) R1 _ (.bl _)⟩
  · exact False.elim q
theorem k_or {ea eb : E} {x y : Expr} {r : List Expr} {pos : Pos} (ha : PE X x (TE1 Γ X.K W (evE (callN Γ.prog Γ.wf k) ea))) (hb : PE X (.BoolOp .Or (y :: r) pos) (TE1 Γ X.K W (evE (callN Γ.prog Γ.wf k) eb))) :
    PE X (.BoolOp .Or (x :: y :: r) pos) (TE1 Γ X.K W (evE (callN Γ.prog Γ.wf k) (.or ea eb))) := by
  refine PE_mono (pe_or ha hb) ?_
  rintro σ H Q ⟨w, sl, st, R, S, q⟩
  dsimp only [evE] at q
  refine chain1 R S q fun w1 H1 st1 a v l1 R1 r1 q => ?_
  split at q
  · cases r1; exact ⟨true, rfl, by rw [if_pos rfl]; exact q w1 H1 (Wd.Le.refl _) R1 _ (.bl _)⟩
  · cases r1; exact ⟨false, rfl, by rw [if_neg (by decide)]; exact ⟨w1, sl, st1, R1, S.le l1, q⟩⟩
  · exact False.elim q
theorem kt_and {ea eb : E} {x y : Expr} {r : List Expr} {pos : Pos} (ha : PT X x (TT1 Γ X.K W (evE (callN Γ.prog Γ.wf k) ea))) (hb : PW X (.BoolOp .And (y :: r) pos) (TT1 Γ X.K W (evE (callN Γ.prog Γ.wf k) eb))) :
    PW X (.BoolOp .And (x :: y :: r) pos) (TT1 Γ X.K W (evE (callN Γ.prog Γ.wf k) (.and ea eb))) := by
  have h := pw_and (pos := pos) ha hb
  refine ⟨fun whole pins s σ H Q I q => h.run whole pins s σ H Q I ?_⟩
  obtain ⟨w, sl, st, R, S, q⟩ := q
  dsimp only [evE] at q
  refine chainT R S q fun w1 H1 st1 a l1 R1 q => ?_
  split at q
  · exact ⟨true, rfl, by rw [if_pos rfl]; exact ⟨w1, sl, st1, R1, S.le l1, q⟩⟩
  · obtain ⟨b, e, q⟩ := q w1 H1 (Wd.Le.refl _) R1
    cases e
    exact ⟨false, rfl, by rw [if_neg (by decide)]; exact q⟩
  · exact False.elim q
theorem kt_or {ea eb : E} {x y : Expr} {r : List Expr} {pos : Pos} (ha : PT X x (TT1 Γ X.K W (evE (callN Γ.prog Γ.wf k) ea))) (hb : PW X (.BoolOp .Or (y :: r) pos) (TT1 Γ X.K W (evE (callN Γ.prog Γ.wf k) eb))) :
    PW X (.BoolOp .Or (x :: y :: r) pos) (TT1 Γ X.K W (evE (callN Γ.prog Γ.wf k) (.or ea eb))) := by
  have h := pw_or (pos := pos) ha hb
  refine ⟨fun whole pins s σ H Q I q => h.run whole pins s σ H Q I ?_⟩
  obtain ⟨w, sl, st, R, S, q⟩ := q
  dsimp only [evE] at q
  refine chainT R S q fun w1 H1 st1 a l1 R1 q => ?_
  split at q
  · obtain ⟨b, e, q⟩ := q w1 H1 (Wd.Le.refl _) R1
    cases e
    exact ⟨true, rfl, by rw [if_pos rfl]; exact q⟩
  · exact ⟨false, rfl, by rw [if_neg (by decide)]; exact ⟨w1, sl, st1, R1, S.le l1, q⟩⟩
  · exact False.elim q
theorem k_ife {ec ea eb : E} {t x y : Expr} {pos : Pos} (hc : PT X t (TT1 Γ X.K W (evE (callN Γ.prog Γ.wf k) ec))) (ha : PE X x (TE1 Γ X.K W (evE (callN Γ.prog Γ.wf k) ea))) (hb : PE X y (TE1 Γ X.K W (evE (callN Γ.prog Γ.wf k) eb))) :
    PE X (.IfExp t x y pos) (TE1 Γ X.K W (evE (callN Γ.prog Γ.wf k) (.ife ec ea eb))) := by
  refine PE_mono (pe_ifExp hc ha hb) ?_
  rintro σ H Q ⟨w, sl, st, R, S, q⟩
  dsimp only [evE] at q
  refine chainT R S q fun w1 H1 st1 a l1 R1 q => ?_
  split at q
  · exact ⟨true, rfl, by rw [if_pos rfl]; exact ⟨w1, sl, st1, R1, S.le l1, q⟩⟩
  · exact ⟨false, rfl, by rw [if_neg (by decide)]; exact ⟨w1, sl, st1, R1, S.le l1, q⟩⟩
  · exact False.elim q
end
end MP
/-! MP7: calls, subscripts, slices, methods. -/
namespace MP
open PySem PySem.Spec PyProof.Rows L2
section
variable {Γ : Gl0} {k : Nat} {c : SC} {X : Cx} {W : WX}
theorem star_ok {e : Expr} {es : List Expr} {env : Env} (h : starB e = false) : starEach (e :: es) env = (false, eval e env) :: starEach es env := by cases e <;> first | rfl | cases h
theorem plain_ok {env : Env} {pos : Pos} : ∀ {es : List Expr}, es.any starB = false → (backTo pos (starEach es env)).any (·.1) = false
  | [], _ => rfl
  | e :: es, h => by
    simp only [List.any_cons, Bool.or_eq_false_iff] at h
    rw [star_ok h.1]
    show (false || (backTo pos (starEach es env)).any (·.1)) = false
    rw [plain_ok h.2]; rfl
theorem gl_ok {x : Str} (hx : XOk Γ k c X W) (h : glB c.sc x = true) : Gl X x := by
  show X.env.scope.names.lookup x = _
  rw [hx.hsc]; unfold glB at h
  split at h <;> simp_all
theorem bi_ok {x : Str} (hx : XOk Γ k c X W) (h : x ∈ BI) : X.mg x = none := hx.gok.bi x h
/-- a built-in's arguments -/
theorem args1 {m : Slots → M (List MP.W)} {F : List MP.W → M MP.W} {σ : L2.St} {H : Hp} {Q : VK} (h : TE1 Γ X.K W (fun sl => M.bind (m sl) F) σ H Q) : TA1 Γ X.K W m σ H fun vs H1 => ∃ w st as, RS X.K w st H1 ∧ Reps X.K w vs as ∧ Out X.K (F as st) w (RV (K := X.K) Q) (EX Γ X.K W σ) := by
  obtain ⟨w, sl, st, R, S, h⟩ := h
  exact ⟨w, sl, st, R, S, (Out.bind h).imp (fun w' H' st' a l R' q vs r => ⟨w', st', a, R', r, q⟩) fun _ _ _ _ _ _ _ q => q⟩
def bltB : Prim → Bool
  | .int1 => false
  | .list => false
  | .tuple => false
  | .dict => false
  | .str => false
  | _ => true
theorem k_bi {b : Bool} {p : Prim} {es : Es} {x : Str} {e : Expr} {args : List Expr} {p1 pos : Pos} (hx : XOk Γ k c X W) (hn : x = primN p) (hg : glB c.sc x = true) (hs : (e :: args).any starB = false)
    (ha : PA X (e :: args) (TA1 Γ X.K W (evEs (callN Γ.prog Γ.wf k) es))) : PE X (.Call (.Name x p1) (e :: args) [] pos) (TE1 Γ X.K W (evE (callN Γ.prog Γ.wf k) (.bi b p es))) := by
  simp only [List.any_cons, Bool.or_eq_false_iff] at hs
  have hx2 : x ∈ BI := by rw [hn]; cases p <;> decide +kernel
  have hG := gl_ok hx hg
  have hM := bi_ok hx hx2
  have hC := callPrim (X := X) b p hx.calm hx.gd (RMU hx.room)
  have hne : x ≠ "__name__" := by rw [hn]; cases p <;> decide +kernel
  have hdb : (x == ("__debug__" : Str)) = false := by rw [hn]; cases p <;> decide +kernel
  have key : PE X (.Call (.Name x p1) (e :: args) [] pos) (tCB (RNW X.K (primF b p)) (TA1 Γ X.K W (evEs (callN Γ.prog Γ.wf k) es))) := by
    cases hb : bltB p with
    | true =>
      have hv : ∃ id, primV p = .builtin id ∧ bootBuiltins x = some (.builtin id) := by
        subst hn
        cases p <;> first | (cases hb; done) | exact ⟨_, rfl, by decide +kernel⟩
      obtain ⟨id, h1, h2⟩ := hv
      rw [h1] at hC
      exact pe_callB hC hG hM h2 ha hne hdb (star_ok hs.1) (plain_ok hs.2)
    | false =>
      have hv : ∃ id, primV p = .type id ∧ bootBuiltins x = some (.type id) := by
        subst hn
        cases p <;> first | (cases hb; done) | exact ⟨_, rfl, by decide +kernel⟩
      obtain ⟨id, h1, h2⟩ := hv
      rw [h1] at hC
      exact pe_callTy hC hG hM h2 ha hne hdb (star_ok hs.1) (plain_ok hs.2)
  refine PE_mono key ?_
  intro σ H Q q
  obtain ⟨w, sl, st, R, S, q⟩ := args1 (F := primF b p) q
  exact ⟨w, sl, st, R, S, q.imp (fun w' H' st' a l R' q vs r => by obtain ⟨w2, st2, as, R2, r2, q2⟩ := q vs r; exact ⟨w2, st2, as, _, R2, r2, q2⟩) fun _ _ _ _ _ _ _ q => q⟩
/-! ### isinstance -/
theorem tyS_ok (t : Ty) : bootBuiltins (tyS t) = some (.type (tyN t)) ∧ tyS t ≠ "__name__" ∧ (tyS t == ("__debug__" : Str)) = false ∧ tyS t ∈ BI := by cases t <;> exact ⟨by decide +kernel, by decide +kernel, by decide +kernel, by decide +kernel⟩
theorem pe_ty {t : Ty} {y : Str} {p : Pos} (hx : XOk Γ k c X W) (hn : y = tyS t) (hg : glB c.sc y = true) : PE X (.Name y p) (tC (.ty (tyN t))) := by
  subst hn
  obtain ⟨h1, h2, h3, h4⟩ := tyS_ok t
  exact pe_bltn (gl_ok hx hg) (bi_ok hx h4) h1 rfl h2 h3
theorem k_isi {t : Ty} {ea : E} {f y : Str} {x : Expr} {p1 p2 pos : Pos} (hx : XOk Γ k c X W) (hf : f = ("isinstance" : Str)) (hg : glB c.sc f = true) (hy : y = tyS t) (hgy : glB c.sc y = true) (hs : starB x = false)
    (ha : PE X x (TE1 Γ X.K W (evE (callN Γ.prog Γ.wf k) ea))) : PE X (.Call (.Name f p1) [x, .Name y p2] [] pos) (TE1 Γ X.K W (evE (callN Γ.prog Γ.wf k) (.isi t ea))) := by
  subst hf
  refine PE_mono (pe_callB (call_isi (X := X)) (gl_ok hx hg) (bi_ok hx (by decide +kernel)) (by decide +kernel) (pa_cons ha (pa_cons (pe_ty hx hy hgy) pa_nil) (star_ok hs)) (by decide +kernel) (by decide +kernel) (star_ok hs) rfl) ?_
  rintro σ H Q ⟨w, sl, st, R, S, q⟩
  dsimp only [evE] at q
  refine chain1 R S q fun w1 H1 st1 a v l1 R1 r1 q => ?_
  obtain ⟨b, e, q⟩ := rvBl R1 (Out.imp q (fun _ _ _ _ _ _ q => q) (E' := fun _ _ _ _ _ => True) fun _ _ _ _ _ _ _ _ => trivial)
  obtain ⟨T, h1⟩ := isTy_ok R1 r1
  obtain ⟨h1, h2⟩ := h1 t b e
  exact ⟨v, .ty (tyN t), .type T, .type (tyN t), b, rfl, .ty _, h1, h2, q⟩
theorem pa_tys (hx : XOk Γ k c X W) : ∀ {ts : List Ty} {ns : List Expr}, tyNames c.sc ts ns = true → PA X ns (fun _ H Q => Q (ts.map fun t => V.ty (tyN t)) H)
  | [], [], _ => pa_nil
  | t :: ts, .Name y p :: es, h => by
    simp only [tyNames, Bool.and_eq_true, decide_eq_true_eq] at h
    exact pa_cons (pe_ty hx h.1.1 h.1.2) (pa_tys hx h.2) rfl
  | [], _ :: _, h => by cases h
  | _ :: _, [], h => by cases h
  | _ :: _, .Constant _ _ _ :: _, h => by cases h
  | _ :: _, .BoolOp _ _ _ :: _, h => by cases h
  | _ :: _, .NamedExpr _ _ _ :: _, h => by cases h
  | _ :: _, .BinOp _ _ _ _ :: _, h => by cases h
  | _ :: _, .UnaryOp _ _ _ :: _, h => by cases h
  | _ :: _, .Lambda _ _ _ _ :: _, h => by cases h
  | _ :: _, .IfExp _ _ _ _ :: _, h => by cases h
  | _ :: _, .Dict _ _ _ :: _, h => by cases h
  | _ :: _, .Set _ _ _ :: _, h => by cases h
  | _ :: _, .List _ _ :: _, h => by cases h
  | _ :: _, .Tuple _ _ _ :: _, h => by cases h
  | _ :: _, .ListComp _ _ _ _ :: _, h => by cases h
  | _ :: _, .SetComp _ _ _ _ :: _, h => by cases h
  | _ :: _, .DictComp _ _ _ _ _ :: _, h => by cases h
  | _ :: _, .GeneratorExp _ _ _ _ :: _, h => by cases h
  | _ :: _, .Await _ _ :: _, h => by cases h
  | _ :: _, .Yield _ _ :: _, h => by cases h
  | _ :: _, .YieldFrom _ _ :: _, h => by cases h
  | _ :: _, .Compare _ _ _ _ :: _, h => by cases h
  | _ :: _, .Call _ _ _ _ :: _, h => by cases h
  | _ :: _, .FormattedValue _ _ _ _ :: _, h => by cases h
  | _ :: _, .JoinedStr _ _ :: _, h => by cases h
  | _ :: _, .Attribute _ _ _ :: _, h => by cases h
  | _ :: _, .Subscript _ _ _ :: _, h => by cases h
  | _ :: _, .Starred _ _ :: _, h => by cases h
  | _ :: _, .Slice _ _ _ _ :: _, h => by cases h
theorem clsAll : ∀ ts : List Ty, Paired ClsV (ts.map fun t => V.ty (tyN t)) (ts.map fun t => Value.type (tyN t))
  | [] => .nil
  | t :: ts => .cons (.ty _) (clsAll ts)
theorem k_isiT {ts : List Ty} {ea : E} {f : Str} {x : Expr} {ns : List Expr} {j : Nat} {p1 p2 pos : Pos} (hx : XOk Γ k c X W) (hf : f = ("isinstance" : Str)) (hg : glB c.sc f = true) (hl : ts.length < 20) (hts : ts ≠ []) (hy : tyNames c.sc ts ns = true) (hs : starB x = false)
    (ha : PE X x (TE1 Γ X.K W (evE (callN Γ.prog Γ.wf k) ea))) : PE X (.Call (.Name f p1) [x, .Tuple ns j p2] [] pos) (TE1 Γ X.K W (evE (callN Γ.prog Γ.wf k) (.isiT ts ea))) := by
  subst hf
  refine PE_mono (pe_callB (call_isiT (X := X)) (gl_ok hx hg) (bi_ok hx (by decide +kernel)) (by decide +kernel) (pa_cons ha (pa_cons (pe_tup (pa_tys hx hy)) pa_nil rfl) (star_ok hs)) (by decide +kernel) (by decide +kernel) (star_ok hs) rfl) ?_
  rintro σ H Q ⟨w, sl, st, R, S, q⟩
  dsimp only [evE] at q
  refine chain1 R S q fun w1 H1 st1 a v l1 R1 r1 q => ?_
  refine ⟨by rw [List.length_map]; exact Nat.le_trans (Nat.le_of_lt hl) (by decide), fun p hp => ?_⟩
  have R2 := R1.grow (o := .tup (ts.map fun t => V.ty (tyN t))) hp
  obtain ⟨b, e, q⟩ := rvBl R2 (Out.imp q (fun _ _ _ _ _ _ q => q) (E' := fun _ _ _ _ _ => True) fun _ _ _ _ _ _ _ _ => trivial)
  obtain ⟨T, h1⟩ := isTy_ok R2 r1
  have hT : TyX X.K (upd H1 p (.tup (ts.map fun t => V.ty (tyN t)))) v (.type T) := by
    cases ts with
    | nil => exact absurd rfl hts
    | cons t ts =>
      simp only [isTys] at e
      cases e' : isTy st1 t a with
      | none => rw [e'] at e; cases e
      | some b' => exact (h1 t b' e').1
  exact ⟨v, p, _, .type T, _, b, rfl, upd_same, clsAll ts, hT, isTys_ok (fun t b h => (h1 t b h).2) ts b e, q⟩
/-! ### own defs -/
theorem find_mem {P : List Fn} {f : Nat} {d : Fn} (h : find P f = some d) : d ∈ P ∧ d.id = f := by
  unfold find at h
  exact ⟨List.mem_of_find?_eq_some h, by simpa using List.find?_some h⟩
theorem run_G {d : Fn} {pins : List (Addr × Obj)} {σ : L2.St} {H : Hp} {s : Shared} {Q : VK} {us : List Value} {vs : List V} {args : Args} (hx : XOk Γ k c X W) (hd : d ∈ Γ.prog) (I : Inv X pins σ H s) (r : Vals vs us) (hl : us.length = d.np)
    (hb : BindsTo s (Γ.fdn d.id) args ((d.N.take d.np).zip us)) (h : spW Γ X.K (callN Γ.prog Γ.wf k d.id) vs H Q (fun cls dd H' => W cls dd σ H')) :
    codeAny (model X.prog X.w) X.A (.call (.ref (Γ.fa d.id)) args) (fun r s' => match r with | .ok (.ret u) => EP X pins σ Q u s' | .ok _ => False | .error e => X.xe e s') s := by
  refine codeAny_mono (hx.fns d hd X.A X.stack s H args us vs Q _ hx.room hx.gd I.env0 hb r hl h) fun r s' hq => ?_
  cases r with
  | error e => exact hx.tk e s' (XE.of_call I (fun cls dd H' z => z) hq)
  | ok fl =>
    cases fl with
    | ret u => exact I.after hq
    | next => exact False.elim hq
    | brk => exact False.elim hq
    | cont => exact False.elim hq
theorem callN_find {f : Nat} {ws : List MP.W} {st : Store} {w : Wd} {R : Wd → Hp → Store → MP.W → Prop} {E : Wd → Hp → Store → Nat → MP.W → Prop} {K : PySem.W.Frag} (h : Out K (callN Γ.prog Γ.wf k f ws st) w R E) : ∃ d, find Γ.prog f = some d ∧ ws.length = d.np := by
  cases k with
  | zero => exact False.elim h
  | succ k =>
    unfold callN at h
    cases e : find Γ.prog f with
    | none => simp only [e] at h; exact False.elim h
    | some d =>
      simp only [e] at h
      split at h
      · next q => exact ⟨d, rfl, q⟩
      · exact False.elim h
theorem k_call {d : Fn} {es : Es} {x : Str} {e : Expr} {rest : List Expr} {p pos : Pos} (hx : XOk Γ k c X W) (hf : find Γ.prog d.id = some d) (hn : x = d.name) (hg : glB c.sc x = true) (hdb : (x == ("__debug__" : Str)) = false) (hs : (e :: rest).any starB = false)
    (ha : PA X (e :: rest) (TA1 Γ X.K W (evEs (callN Γ.prog Γ.wf k) es))) : PE X (.Call (.Name x p) (e :: rest) [] pos) (TE1 Γ X.K W (evE (callN Γ.prog Γ.wf k) (.call d.id es []))) := by
  obtain ⟨hd, _⟩ := find_mem hf
  have hm : X.mg x = some (.ref (Γ.fa d.id)) := by rw [hn]; exact (hx.gok.at_ d hd).1
  have hk := (hx.gok.at_ d hd).2
  simp only [List.any_cons, Bool.or_eq_false_iff] at hs
  refine ⟨fun pins s σ H Q I h => ?_⟩
  refine wpAny_Call_Name_kw (ld_glob I (gl_ok hx hg) hm ?_ hdb)
  have h' := args1 (F := callN Γ.prog Γ.wf k d.id) h
  refine PySem.W.callWith_K (h₀ := X.base) I.ok.mod.kin hk (thn (ha.run pos pins s σ H _ I h') fun us s1 ⟨vs, H1, I1, r, w, st, as, R, rr, q⟩ => ⟨I1.kIn, ?_⟩) (star_ok hs.1) (plain_ok hs.2)
  obtain ⟨d', e', hl⟩ := callN_find q
  rw [hf] at e'; cases e'
  have hl2 : us.length = d.np := by rw [← r.length, rr.length]; exact hl
  exact wpAny_call (run_G hx hd I1 r hl2 (hx.gok.bind d hd s1 us hl2) ⟨w, st, as, R, rr, q⟩)
theorem k_call0 {d : Fn} {x : Str} {p pos : Pos} (hx : XOk Γ k c X W) (hf : find Γ.prog d.id = some d) (hn : x = d.name) (hg : glB c.sc x = true) (hdb : (x == ("__debug__" : Str)) = false) :
    PE X (.Call (.Name x p) [] [] pos) (TE1 Γ X.K W (evE (callN Γ.prog Γ.wf k) (.call d.id .nil []))) := by
  obtain ⟨hd, _⟩ := find_mem hf
  have hm : X.mg x = some (.ref (Γ.fa d.id)) := by rw [hn]; exact (hx.gok.at_ d hd).1
  have hk := (hx.gok.at_ d hd).2
  refine ⟨fun pins s σ H Q I h => ?_⟩
  refine wpAny_Call_Name_kw (ld_glob I (gl_ok hx hg) hm ?_ hdb)
  obtain ⟨w, sl, st, R, S, q⟩ := h
  dsimp only [evE, evEs] at q
  have q : Out X.K (callN Γ.prog Γ.wf k d.id [] st) w (RV (K := X.K) Q) (EX Γ X.K W σ) := q
  obtain ⟨d', e', hl⟩ := callN_find q
  rw [hf] at e'; cases e'
  exact PySem.W.callWith_K0 I.kIn hk (wpAny_call (run_G (us := []) hx hd I .nil hl (hx.gok.bind d hd s [] hl) ⟨w, st, [], R, .nil, q⟩))
end
end MP
/-! MP8: subscripts, slices, methods. -/
namespace MP
open PySem PySem.Spec PyProof.Rows L2
section
variable {K : PySem.W.Frag}
theorem getKey_ok {w : Wd} {k : Key} {x : MP.W} : ∀ {kvs : List (Key × V)} {vs : List MP.W}, Reps K w (kvs.map (·.2)) vs → getKey k (kvs.map (·.1)) vs = some x → ∃ v, valV kvs k = some v ∧ Rep K w v x
  | [], vs, r, h => by cases r; cases h
  | (k', v) :: kvs, vs, r, h => by
    cases r with
    | cons h1 t =>
      simp only [List.map_cons, getKey] at h
      unfold valV
      split at h
      · next e => cases h; exact ⟨v, by simp [List.find?, e], h1⟩
      · next e =>
        obtain ⟨u, q, r⟩ := getKey_ok t h
        refine ⟨u, ?_, r⟩
        unfold valV at q
        simp only [List.find?, e, decide_false]
        exact q
end
section
variable {Γ : Gl0} {k : Nat} {c : SC} {X : Cx} {W : WX}
def subF : MP.W → MP.W → M MP.W := fun a i st => M.opt (subW st a i) st
theorem ixSub (hu : X.A.units + 100 < cLine) : IxR X (R2W X.K subF) := by
  intro value slice pins s σ H x y v u Q I rx ry ⟨w, st, a, b, E, R, ra, rb, h0⟩ hs
  obtain ⟨r, e, h⟩ := h0.opt
  have h : ∀ v, Rep X.K w v r → Q v H := fun v rv => h w H (Wd.Le.refl w) R v rv
  have dct : ∀ (key : Key), y = kV key → ((asDct st a).bind fun d => getKey key d.1 d.2) = some r → wpAny (model X.prog X.w) X.A (subscriptTail value slice v u) (EP X pins σ Q) X.xe s := by
    intro key hy e
    obtain ⟨⟨ks, vs⟩, e1, e⟩ := MP.bind_some e
    obtain ⟨p, kvs, rfl, hp, z, hk, rr⟩ := asDct_ok R ra e1
    subst hk
    obtain ⟨v', q, rv⟩ := getKey_ok rr e
    have g : DGet H p y (some v') := .inl ⟨kvs, key, hp, hy, q.symm⟩
    cases rx
    exact tail_any (dict_typeIs I g) PySem.F.slot_dict_getitem.lookup (d_getItem (by omega) I g ry fun w' s3 I3 rw' => ⟨v', H, I3, rw', h v' rv⟩) hs
  unfold subW at e
  split at e
  · split at e
    · next hl =>
      obtain ⟨z, e1, rfl⟩ := map_some e
      cases ra; cases rb
      exact ix_str value slice pins s σ H _ _ v u Q I rx ry ⟨_, _, z, rfl, rfl, lim_le hl, e1, h _ (.str _)⟩ hs
    · cases e
  · cases rb
    split at e
    · next ws e1 =>
      obtain ⟨p, xs, rfl, hp, z, rr⟩ := asSeq_ok R ra e1
      have hat : ∀ {j : Int}, L2.atI ws j = some r → ∃ v', L2.atI xs j = some v' ∧ Rep X.K w v' r := by
        intro j q
        unfold L2.atI at q ⊢
        rw [rr.length]
        obtain ⟨i, q1, q2⟩ := MP.bind_some q
        obtain ⟨v', q3, q4⟩ := rr.get q2
        exact ⟨v', by rw [q1]; exact q3, q4⟩
      obtain ⟨v', q1, q2⟩ := hat e
      rcases hp with hp | ⟨hp, _⟩
      · exact ix_list value slice pins s σ H _ _ v u Q I rx ry ⟨p, xs, _, v', rfl, rfl, hp, q1, h v' q2⟩ hs
      · exact ix_tup value slice pins s σ H _ _ v u Q I rx ry ⟨p, xs, _, v', rfl, rfl, SqT.of hp, q1, h v' q2⟩ hs
    · exact dct (.inl _) rfl e
  · cases rb; exact dct (.inr _) rfl e
  · cases e
theorem plainIx {b : Expr} (h : sliceB b = false) : PlainIx b := by intro o i; cases b <;> first | rfl | cases h
theorem k_sub {ea ei : E} {x y : Expr} {pos : Pos} (hx : XOk Γ k c X W) (hs : sliceB y = false) (ha : PE X x (TE1 Γ X.K W (evE (callN Γ.prog Γ.wf k) ea))) (hb : PE X y (TE1 Γ X.K W (evE (callN Γ.prog Γ.wf k) ei))) :
    PE X (.Subscript x y pos) (TE1 Γ X.K W (evE (callN Γ.prog Γ.wf k) (.sub ea ei))) :=
  PE_mono (pe_ix (ixSub (RMU hx.room)) ha hb (plainIx hs)) fun σ H Q q => op2 (F := subF) q
/-! ### slices -/
def sliceF (b : Bool) (lo hi : Option Int) : MP.W → M MP.W := fun x => M.bind (fun st => M.opt (sliceW st x lo hi) st) (fin b)
theorem slSlice (b : Bool) : L2.SlR X (fun x lo hi H Q => ∃ w st a E, RS X.K w st H ∧ Rep X.K w x a ∧ Out X.K (sliceF b lo hi a st) w (RV (K := X.K) Q) E) := by
  intro pins s σ H x v vl vu lo hi sl Q I rx hsl p1 p2 ⟨w, st, a, E, R, ra, h0⟩
  obtain ⟨r, e, h⟩ := (Out.bind h0).opt
  have h := h w H (Wd.Le.refl w) R
  unfold sliceW at e
  split at e
  · next ws =>
    cases e
    obtain ⟨p, xs, rfl, hp, z, rr⟩ := asTup_ok R ra
    refine sl_tupA pins s σ H _ v vl vu lo hi sl Q I rx hsl p1 p2 ⟨p, xs, rfl, SqT.of hp, fun q => ?_, fun _ q hq => h.laidT R hq (Nat.le_trans (cutV_length xs lo hi) z) (rr.cut lo hi)⟩
    have : cutW ws lo hi = ws := by
      unfold cutW
      rw [← rr.length, q.1, q.2]
      simp [rr.length]
    rw [this] at h
    exact h.val R (by intro _ z; cases z) ra
  · obtain ⟨ws, e1, rfl⟩ := map_some e
    obtain ⟨p, xs, rfl, hp, z, rr⟩ := asLst_ok R ra e1
    exact sl_list pins s σ H _ v vl vu lo hi sl Q I rx hsl p1 p2 ⟨p, xs, rfl, SqL.of hp, fun q hq => h.laid R hq (Nat.le_trans (cutV_length xs lo hi) z) (rr.cut lo hi)⟩
theorem chainO {m : Slots → M (Option Int)} {σ : L2.St} {H : Hp} {w : Wd} {sl : Slots} {st : Store} {β : Type} {f : Option Int → M β} {R : Wd → Hp → Store → β → Prop} {Q : Option Int → Hp → Prop} (R0 : RS X.K w st H) (S : SlR X.K w σ sl)
    (h : Out X.K (M.bind (m sl) f st) w R (EX Γ X.K W σ))
    (hq : ∀ w' H' st' a, w.Le w' → RS X.K w' st' H' → Out X.K (f a st') w' R (EX Γ X.K W σ) → Q a H') : TO1 Γ X.K W m σ H Q :=
  ⟨w, sl, st, R0, S, (Out.bind h).imp (fun w' H' st' a l R' q => hq w' H' st' a l R' q) fun _ _ _ _ _ _ _ q => q⟩
theorem k_slice {b : Bool} {ea : E} {lo hi : Oe} {x : Expr} {l u : Option Expr} {p2 pos : Pos} (ha : PE X x (TE1 Γ X.K W (evE (callN Γ.prog Γ.wf k) ea))) (hl : PO X l (TO1 Γ X.K W (evO (callN Γ.prog Γ.wf k) lo))) (hu : PO X u (TO1 Γ X.K W (evO (callN Γ.prog Γ.wf k) hi))) :
    PE X (.Subscript x (.Slice l u none p2) pos) (TE1 Γ X.K W (evE (callN Γ.prog Γ.wf k) (.slice b ea lo hi))) := by
  refine PE_mono (pe_slice (slSlice b) ha hl hu) ?_
  rintro σ H Q ⟨w, sl, st, R, S, q⟩
  dsimp only [evE] at q
  refine chain1 R S q fun w1 H1 st1 a v l1 R1 r1 q => ?_
  refine chainO R1 (S.le l1) q fun w2 H2 st2 o1 l2 R2 q => ?_
  refine chainO R2 ((S.le l1).le l2) q fun w3 H3 st3 o2 l3 R3 q => ?_
  exact ⟨w3, st3, a, _, R3, (r1.le l2).le l3, q⟩
theorem ko_none : PO X none (TO1 Γ X.K W (evO (callN Γ.prog Γ.wf k) .none)) := by
  refine PO_mono po_none ?_
  rintro σ H Q ⟨w, sl, st, R, S, q⟩
  exact q w H (Wd.Le.refl w) R
theorem ko_some {ea : E} {x : Expr} (ha : PE X x (TE1 Γ X.K W (evE (callN Γ.prog Γ.wf k) ea))) : PO X (some x) (TO1 Γ X.K W (evO (callN Γ.prog Γ.wf k) (.some ea))) := by
  refine PO_mono (po_some ha) ?_
  rintro σ H Q ⟨w, sl, st, R, S, q⟩
  dsimp only [evO] at q
  refine chain1 R S q fun w1 H1 st1 a v l1 R1 r1 q => ?_
  obtain ⟨i, e, q⟩ := (Out.bind q).opt
  exact ⟨i, asInt_ok r1 e, q w1 H1 (Wd.Le.refl _) R1 w1 H1 (Wd.Le.refl _) R1⟩
/-! ### arguments -/
theorem ka_nil : PA X [] (TA1 Γ X.K W (evEs (callN Γ.prog Γ.wf k) .nil)) := by
  refine PA_mono pa_nil ?_
  rintro σ H Q ⟨w, sl, st, R, S, q⟩
  exact q w H (Wd.Le.refl w) R [] .nil
theorem ka_cons {m : E} {ms : Es} {e : Expr} {es : List Expr} (hs : starB e = false) (ha : PE X e (TE1 Γ X.K W (evE (callN Γ.prog Γ.wf k) m))) (hr : PA X es (TA1 Γ X.K W (evEs (callN Γ.prog Γ.wf k) ms))) :
    PA X (e :: es) (TA1 Γ X.K W (evEs (callN Γ.prog Γ.wf k) (.cons m ms))) := by
  refine PA_mono (pa_cons ha hr (star_ok hs)) ?_
  rintro σ H Q ⟨w, sl, st, R, S, q⟩
  dsimp only [evEs] at q
  refine chain1 R S q fun w1 H1 st1 a v l1 R1 r1 q => ?_
  exact ⟨w1, sl, st1, R1, S.le l1, (Out.bind q).imp (fun w' H' st' as l R' q vs r => q w' H' (Wd.Le.refl _) R' _ (.cons (r1.le l) r)) fun _ _ _ _ _ _ _ q => q⟩
theorem ka_star {m : E} {ms : Es} {e : Expr} {es : List Expr} {p : Pos} (ha : PE X e (TE1 Γ X.K W (evE (callN Γ.prog Γ.wf k) m))) (hr : PA X es (TA1 Γ X.K W (evEs (callN Γ.prog Γ.wf k) ms))) :
    PA X (.Starred e p :: es) (TA1 Γ X.K W (evEs (callN Γ.prog Γ.wf k) (.star m ms))) := by
  refine PA_mono (StX.pa_star ha hr rfl) ?_
  rintro σ H Q ⟨w, sl, st, R, S, q⟩
  dsimp only [evEs] at q
  refine chain1 R S q fun w1 H1 st1 a v l1 R1 r1 q => ?_
  obtain ⟨ws, e1, q⟩ := (Out.bind q).opt
  have q := q w1 H1 (Wd.Le.refl _) R1
  obtain ⟨p, xs, rfl, hp, z, rr⟩ := asSeq_ok R1 r1 e1
  refine ⟨p, xs, rfl, ?_, ⟨w1, sl, st1, R1, S.le l1, (Out.bind q).imp (fun w' H' st' as l R' q vs r => q w' H' (Wd.Le.refl _) R' _ ((rr.le l).append r)) fun _ _ _ _ _ _ _ q => q⟩⟩
  rcases hp with hp | ⟨hp, _⟩
  · exact .inr hp
  · exact .inl (SqT.of hp)
/-! ### methods -/
def mthF (m : Mth) : MP.W → List MP.W → M MP.W := mthW m
def mthV : Mth → String
  | .append => "list.append"
  | .extend => "list.extend"
  | .pop => "list.pop"
  | .popAt => "list.pop"
  | _ => ""
theorem live_ok {w : Wd} {st : Store} {H : Hp} {v : V} {n : Nat} {ws : List MP.W} (R : RS X.K w st H) (r : Rep X.K w v (.cell n)) (e : st[n]? = some (.lst ws)) :
    ∃ a xs, v = .ref a ∧ w.ρ[n]? = some a ∧ H a = some (.lst xs) ∧ w.F a = none ∧ xs.length ≤ sizeLine ∧ Reps X.K w xs ws := by
  cases r with
  | cell h => obtain ⟨xs, h1, h2, h3, h4⟩ := R.cells n _ _ h e; exact ⟨_, xs, rfl, h, h1, h2, h3, h4⟩
theorem mtMth (m : Mth) (hm : mthDone m = true) : MtR X (mthV m) (fun x xs H Q => ∃ w st a as E, RS X.K w st H ∧ Rep X.K w x a ∧ Reps X.K w xs as ∧ Out X.K (mthW m a as st) w (RV (K := X.K) Q) E) := by
  intro pins s σ H x xs v us Q I rx rs ⟨w, st, a, as, E, R, ra, rr, h⟩
  unfold mthW at h
  split at h
  · next n y =>
    obtain ⟨y', rfl, ry⟩ := reps1 rr
    split at h
    · next ws e =>
      split at h
      · next hl =>
        obtain ⟨p, xs', rfl, h1, h2, h3, h4, h5⟩ := live_ok R ra e
        have hz : xs'.length < sizeLine := by rw [h5.length]; exact Nat.lt_of_lt_of_le hl (by decide)
        refine mt_append pins s σ H _ _ v us Q I rx rs ⟨p, xs', y', rfl, rfl, h2, hz, ?_⟩
        have R' := R.write (c := .lst (ws ++ [y])) (o := .lst (xs' ++ [y'])) h1 h3 ⟨_, upd_same, h3, by simp; omega, h5.append (Reps.one ry)⟩
        exact h w _ (Wd.Le.refl w) R' _ .non
      · exact False.elim h
    · exact False.elim h
  · next n y =>
    obtain ⟨y', rfl, ry⟩ := reps1 rr
    split at h
    · next ws e =>
      split at h
      · next ws' e' =>
        split at h
        · next hl =>
          obtain ⟨p, xs', rfl, h1, h2, h3, h4, h5⟩ := live_ok R ra e
          obtain ⟨p', ys', rfl, h2', h4', h5'⟩ := asLst_ok R ry e'
          have hz : xs'.length + ys'.length ≤ sizeLine := by rw [h5.length, h5'.length]; exact lim_le hl
          refine mt_extend pins s σ H _ _ v us Q I rx rs ⟨p, p', xs', ys', rfl, rfl, h2, h2', hz, ?_⟩
          have R' := R.write (c := .lst (ws ++ ws')) (o := .lst (xs' ++ ys')) h1 h3 ⟨_, upd_same, h3, by simpa using hz, h5.append h5'⟩
          exact h w _ (Wd.Le.refl w) R' _ .non
        · exact False.elim h
      · exact False.elim h
    · exact False.elim h
  · next n =>
    cases rr
    split at h
    · next ws e =>
      split at h
      · next z e' =>
        obtain ⟨p, xs', rfl, h1, h2, h3, h4, h5⟩ := live_ok R ra e
        rw [← h5.length] at e'
        obtain ⟨z', q1, q2⟩ := h5.get e'
        refine mt_pop pins s σ H _ _ v us Q I rx rs ⟨p, xs', z', rfl, rfl, h2, q1, ?_⟩
        have R' := R.write (c := .lst ws.dropLast) (o := .lst xs'.dropLast) h1 h3 ⟨_, upd_same, h3, by simp; omega, h5.dropLast⟩
        exact h w _ (Wd.Le.refl w) R' _ q2
      · exact False.elim h
    · exact False.elim h
  · next n i =>
    obtain ⟨y', rfl, ry⟩ := reps1 rr
    cases ry
    split at h
    · next ws e =>
      split at h
      · next hb =>
        simp only [Bool.and_eq_true, decide_eq_true_eq] at hb
        split at h
        · next j ej =>
          split at h
          · next z e' =>
            obtain ⟨p, xs', rfl, h1, h2, h3, h4, h5⟩ := live_ok R ra e
            obtain ⟨z', q1, q2⟩ := h5.get e'
            refine mt_popAt pins s σ H _ _ v us Q I rx rs ⟨p, xs', i, j, z', rfl, rfl, h2, hb.1, hb.2, ?_, q1, ?_⟩
            · rw [h5.length]; exact (ixN_seq ej).1
            · have R' := R.write (c := .lst (ws.eraseIdx j)) (o := .lst (xs'.eraseIdx j)) h1 h3 ⟨_, upd_same, h3, Nat.le_trans (len_erase _ _) h4, h5.eraseIdx j⟩
              exact h w _ (Wd.Le.refl w) R' _ q2
          · exact False.elim h
        · exact False.elim h
      · exact False.elim h
    · exact False.elim h
  · exact False.elim h
theorem base_ok {o : Expr} {attr : Str} {env : Env} {whole : Sem Value} (h : baseB o = true) : attributeBase o attr env whole = whole := by
  cases o <;> first | (cases h; done) | rfl
theorem all_plain {env : Env} {pos : Pos} : ∀ {es : List Expr}, es.any starB = false → (backTo pos (starEach es env)).all (fun x => !x.1) = true
  | [], _ => rfl
  | e :: es, h => by
    simp only [List.any_cons, Bool.or_eq_false_iff] at h
    rw [star_ok h.1]
    show (true && (backTo pos (starEach es env)).all (fun x => !x.1)) = true
    rw [all_plain h.2]; rfl
theorem few_ok {env : Env} {pos : Pos} {es : List Expr} (h : es.any starB = false) (hl : es.length < 20) :
    ((backTo pos (starEach es env)).all (fun x => !x.1) && (backToKw pos (keywordEach [] env)).all (fun x => x.1.isSome) && decide (es.length + ([] : List Keyword).length + (if ([] : List Keyword).isEmpty then 0 else 1) < 30)) = true := by
  rw [all_plain h]
  show (true && true && decide (es.length + 0 + 0 < 30)) = true
  simp; omega
theorem tyL {w : Wd} {st : Store} {H : Hp} {v : V} {x : MP.W} (R : RS X.K w st H) (r : Rep X.K w v x) (h : isTy st .list x = some true) : tyV X.K "list" v H := by
  obtain ⟨T, q⟩ := isTy_ok R r
  cases r with
  | lst e z r => exact .inl ⟨rfl, _, SqL.of (R.fr _ _ e)⟩
  | scr e z => exact .inl ⟨rfl, _, SqL.le R.fr e⟩
  | @cell a n e =>
    dsimp only [isTy] at h
    cases q : st[n]? with
    | none => rw [q] at h; cases h
    | some c =>
      rw [q] at h
      have ok := R.cells n a c e q
      cases c with
      | lst ws => obtain ⟨xs, e1, _⟩ := ok; exact .inl ⟨rfl, _, SqL.of e1⟩
      | dct ks vs => cases h
      | dead y =>
        cases y with
        | lst ws =>
          have ok : Rep X.K w (.ref a) (.lst ws) := ok
          cases ok with
          | lst e1 z r => exact .inl ⟨rfl, _, SqL.of (R.fr _ _ e1)⟩
        | _ => cases h
  | _ => cases h
theorem k_mt {m : Mth} {eo : E} {es : Es} {o : Expr} {args : List Expr} {name : Str} {apos cpos : Pos} (hm : mthDone m = true) (hn : name = mthN m) (hb : baseB o = true) (hline : (apos.endLine == cpos.line) = true) (hl : args.length < 20) (hs : args.any starB = false)
    (ho : PE X o (TE1 Γ X.K W (evE (callN Γ.prog Γ.wf k) eo))) (hes : args = [] → es = .nil) (ha : PA X args (TA1 Γ X.K W (evEs (callN Γ.prog Γ.wf k) es))) : PE X (.Call (.Attribute o name apos) args [] cpos) (TE1 Γ X.K W (evE (callN Γ.prog Γ.wf k) (.mt m eo es))) := by
  have hR := mtMth (X := X) m hm
  have facts : mthTy m = .list ∧ Slot "list" (mthN m) (mthV m) ∧ typeOf (.builtin (mthV m)) = pure (.type "method_descriptor") := by
    cases m with
    | append => exact ⟨rfl, PySem.F.slot_list_append, PySem.F.type_list_append⟩
    | extend => exact ⟨rfl, PySem.F.slot_list_extend, PySem.F.type_list_extend⟩
    | pop => exact ⟨rfl, PySem.F.slot_list_pop, PySem.F.type_list_pop⟩
    | popAt => exact ⟨rfl, PySem.F.slot_list_pop, PySem.F.type_list_pop⟩
    | _ => cases hm
  obtain ⟨hTy, slot, hty⟩ := facts
  rw [← hn] at slot
  cases args with
  | nil =>
    rw [hes rfl]
    refine PE_mono (pe_bm0 PySem.F.plainAttrs_list slot hty hR ho (base_ok hb) hline) ?_
    rintro σ H Q ⟨w, sl, st, R, S, q⟩
    dsimp only [evE, evEs] at q
    refine chain1 R S q fun w1 H1 st1 a v l1 R1 r1 q => ?_
    obtain ⟨t, e, q⟩ := (Out.bind q).opt
    have q := q w1 H1 (Wd.Le.refl _) R1
    rw [hTy] at e
    cases t with
    | false => exact False.elim q
    | true => exact ⟨tyL R1 r1 e, w1, st1, a, [], _, R1, r1, .nil, q⟩
  | cons e1 rest =>
    have hs' := hs
    simp only [List.any_cons, Bool.or_eq_false_iff] at hs
    refine PE_mono (pe_bm PySem.F.plainAttrs_list slot hty hR ho ha (base_ok hb) (few_ok hs' hl) hline (star_ok hs.1) (plain_ok hs.2)) ?_
    rintro σ H Q ⟨w, sl, st, R, S, q⟩
    dsimp only [evE] at q
    refine chain1 R S q fun w1 H1 st1 a v l1 R1 r1 q => ?_
    obtain ⟨t, e, q⟩ := (Out.bind q).opt
    have q := q w1 H1 (Wd.Le.refl _) R1
    rw [hTy] at e
    cases t with
    | false => exact False.elim q
    | true => exact ⟨tyL R1 r1 e, w1, sl, st1, R1, S.le l1, (Out.bind q).imp (fun w' H' st' as l R' q vs r => ⟨w', st', a, as, _, R', r1.le l, r, q⟩) fun _ _ _ _ _ _ _ q => q⟩
end
end MP
/-! MP9: targets. -/
namespace MP
open PySem PySem.Spec PyProof.Rows L2
/-! ### a list unpacked -/
section
variable {prog : Program} {w : World} {A : Around} {E : Value → Shared → Prop} {s : Shared}
theorem isList_ext {h h' : Heap} {l : Addr} {b : Addr} {items : Array Value} (p : PlainL h l items) (e : Heap.ExtBut b h h') (hne : l ≠ b) : PlainL h' l items := p.extBut e hne
theorem draw_list {it t : Addr} {items : Array Value} (hne : t ≠ it) : ∀ (n i : Nat) (s : Shared) (Q : List Value → Shared → Prop), s.heap.IsListIter it t i → PlainL s.heap t items → i + n ≤ items.size →
    (∀ h', Heap.IsListIter h' it t (i + n) → Heap.SameBut it s.heap h' → Q ((items.toList.drop i).take n) { s with heap := h' }) → wpAny (model prog w) A (draw (.ref it) n) Q E s
  | 0, i, s, Q, hit, _, _, hQ => by
    show wpAny _ _ (pure []) Q E s
    exact wpAny_pure (by simpa using hQ s.heap hit (Heap.SameBut.refl ..))
  | n + 1, i, s, Q, hit, ht, hle, hQ => by
    have hlt : i < items.size := by omega
    show wpAny _ _ (pyNext (.ref it) >>= _) Q E s
    refine wpAny_bind (wpAny_pyNext_list_item hit ht.isList (x := items[i]) (by simp [hlt]) fun h₁ hit₁ hs₁ => ?_)
    refine wpAny_bind (wpAny_holding (draw_list hne n (i + 1) _ _ hit₁ (ht.extBut hs₁.extBut hne) (by omega) fun h₂ hit₂ hs₂ => wpAny_pure ?_))
    have hd : items.toList.drop i = items[i] :: items.toList.drop (i + 1) := by simp [List.drop_eq_getElem_cons, hlt]
    have := hQ h₂ (by rw [show i + (n + 1) = i + 1 + n by omega]; exact hit₂) (hs₁.trans hs₂)
    rw [hd, List.take_succ_cons] at this
    exact this
theorem plainL_push {h : Heap} {l : Addr} {items : Array Value} {o : Obj} (p : PlainL h l items) : PlainL (h.push o) l items := p.keeps fun b o e => Heap.get?_push_of_some _ e
theorem unpackItems_list {t : Addr} {items : Array Value} {Q : List Value → Shared → Prop} (hh : A.handled = none) (ht : PlainL s.heap t items)
    (hQ : ∀ h', Heap.ExtBut s.heap.objs.size s.heap h' → Q items.toList { s with heap := h' }) : wpAny (model prog w) A (unpackItems (.ref t) items.size none) Q E s := by
  have hlt : t ≠ s.heap.objs.size := by obtain ⟨o, n, ho, _⟩ := ht; exact Nat.ne_of_lt (Heap.lt_size ho)
  unfold unpackItems
  refine wpAny_bind ?_
  unfold notIterableAtAll
  refine wpAny_bind (wpAny_specialOf ht.isList.typeIs PySem.F.slot_list_iter.lookup ?_)
  refine wpAny_pure ?_
  simp only [Bool.false_eq_true, if_false]
  refine wpAny_bind (wpAny_holding (wpAny_pyIter_list ht.isList ?_))
  refine wpAny_bind (wpAny_holding (draw_list hlt items.size 0 _ _ ⟨_, Heap.get?_push_size _ rfl, rfl, rfl⟩ (plainL_push ht) (by omega) fun h₁ hit₁ hs₁ => ?_))
  have hall : List.take items.size (List.drop 0 items.toList) = items.toList := by
    rw [List.drop_zero]; exact List.take_of_length_le (by simp)
  rw [hall]
  rw [if_neg (by simp)]
  have ht₁ : PlainL h₁ t items := (plainL_push ht).extBut hs₁.extBut hlt
  refine wpAny_bind (wpAny_holding (wpAny_pyNext_list_end hh hit₁ ht₁.isList (by simp) fun h₂ he₂ => ?_))
  simp only [Option.isSome_none, Bool.false_eq_true, if_false]
  exact wpAny_pure (hQ h₂ fun b o hb e => he₂ b o hb (hs₁.extBut b o hb (Heap.get?_push_of_some _ e)))
theorem assign_Tuple_list {env : Env} {elts : List Expr} {x1} {pos : Pos} {t : Addr} {items : Array Value} {Q : Unit → Shared → Prop} (hh : A.handled = none) (ht : PlainL s.heap t items)
    (hn : (assignEach elts env).length = items.size) (hstar : (assignEach elts env).findIdx? (·.1) = none)
    (h : ∀ h', Heap.ExtBut s.heap.objs.size s.heap h' → wpAny (model prog w) A (assignInOrder ((assignEach elts env).map (·.2)) items.toList) Q E { s with heap := h' }) :
    wpAny (model prog w) A (assign (.Tuple elts x1 pos) env (.ref t)) Q E s := by
  rw [assign_Tuple]
  refine wpAny_bind (wpAny_standAt ?_)
  unfold unpack
  rw [hn, hstar]
  exact wpAny_bind (wpAny_holding (unpackItems_list hh ht h))
end
def gTupL (K : PySem.W.Frag) (n : Nat) (t : TGs) : TG := fun v σ H Q => ∃ a xs, v = .ref a ∧ (SqT K H a xs ∨ SqL K H a xs) ∧ xs.length = n ∧ t xs σ H Q
theorem pg_tupL {X : Cx} {pos : Pos} {es : List Expr} {k : Nat} {t : TGs} {n : Nat} (hc : X.calm = true) (h : PGs X es t)
    (hn : (assignEach es X.env).length = n) (hst : (assignEach es X.env).findIdx? (·.1) = none) : PG X (.Tuple es k pos) (gTupL X.K n t) := by
  refine ⟨fun pins s σ H v u Q I r hw => ?_⟩
  obtain ⟨a, xs, e1, hq, hl, hw⟩ := hw
  rcases hq with hq | hq
  · exact (pg_tup hc h hn hst).run pins s σ H v u Q I r ⟨a, xs, e1, hq, hl, hw⟩
  · subst e1
    cases r
    obtain ⟨its, rv, ht, hz⟩ := I.list hq
    refine assign_Tuple_list (I.ok.hd hc) ht (by simp [hn, ← hl, rv.length]) hst fun h' hx => ?_
    have I1 : Inv X pins σ H { s with heap := h' } := I.kept (t' := s.toks) fun b o e => hx b o (Nat.ne_of_lt (Heap.lt_size e)) e
    exact h.run pins _ σ H xs _ Q I1 (by simpa using rv) hw
/-! ### slots that may change -/
def Agree (vs : List Nat) (σ σ' : L2.St) : Prop := σ'.length = σ.length ∧ ∀ i, i ∉ vs → σ'[i]? = σ[i]?
theorem Agree.refl (vs : List Nat) (σ : L2.St) : Agree vs σ σ := ⟨rfl, fun _ _ => rfl⟩
theorem Agree.trans {vs : List Nat} {a b d : L2.St} (h : Agree vs a b) (h' : Agree vs b d) : Agree vs a d := ⟨h'.1.trans h.1, fun i q => (h'.2 i q).trans (h.2 i q)⟩
theorem Agree.mono {vs vs' : List Nat} {a b : L2.St} (h : Agree vs a b) (hs : ∀ i ∈ vs, i ∈ vs') : Agree vs' a b := ⟨h.1, fun i q => h.2 i fun z => q (hs i z)⟩
theorem Agree.set (σ : L2.St) (i : Nat) (v : Option V) : Agree [i] σ (σ.set i v) := ⟨by simp, fun j q => by rw [List.getElem?_set_ne]; intro z; subst z; simp at q⟩
theorem wipe_in {σ : L2.St} {i : Nat} : ∀ {vs : List Nat}, i ∈ vs → i < σ.length → (wipe σ vs)[i]? = some none
  | [], h, _ => by simp at h
  | v :: vs, h, hl => by
    show ((wipe σ vs).set v none)[i]? = _
    by_cases q : v = i
    · subst q
      rw [List.getElem?_set_self (by rw [wipe_length]; exact hl)]
    · rw [List.getElem?_set_ne q]
      rcases List.mem_cons.mp h with z | z
      · exact absurd z.symm q
      · exact wipe_in z hl
theorem Agree.wipe {vs : List Nat} {σ σ' : L2.St} (h : Agree vs σ σ') : L2.wipe σ' vs = L2.wipe σ vs := by
  apply List.ext_getElem?
  intro i
  by_cases q : i ∈ vs
  · by_cases hl : i < σ.length
    · rw [wipe_in q hl, wipe_in q (by rw [h.1]; exact hl)]
    · have hl' : σ'.length ≤ i := by rw [h.1]; omega
      rw [List.getElem?_eq_none (by rw [wipe_length]; exact hl'), List.getElem?_eq_none (by rw [wipe_length]; omega)]
  · rw [wipe_out q, wipe_out q, h.2 i q]
theorem wipe_agree (vs : List Nat) (σ : L2.St) : Agree vs σ (L2.wipe σ vs) := ⟨wipe_length _ _, fun i q => wipe_out q⟩
theorem wipe_wipe (vs : List Nat) (σ : L2.St) : L2.wipe (L2.wipe σ vs) vs = L2.wipe σ vs := (wipe_agree vs σ).wipe
abbrev NoE : Wd → Hp → Store → Nat → MP.W → Prop := fun _ _ _ _ _ => False
section
variable (K : PySem.W.Frag)
def TG1 (vs : List Nat) (m : MP.W → Slots → M Slots) : TG := fun v σ H Q => ∃ w sl st x, RS K w st H ∧ SlR K w σ sl ∧ Rep K w v x ∧ Out K (m x sl st) w (fun w' H' _ sl' => ∀ σ', SlR K w' σ' sl' → Agree vs σ σ' → Q σ' H') NoE
def TGs1 (vs : List Nat) (m : List MP.W → Slots → M Slots) : TGs := fun xs σ H Q => ∃ w sl st ws σ₀, RS K w st H ∧ SlR K w σ sl ∧ Reps K w xs ws ∧ Agree vs σ₀ σ ∧ Out K (m ws sl st) w (fun w' H' _ sl' => ∀ σ', SlR K w' σ' sl' → Agree vs σ₀ σ' → Q σ' H') NoE
end
section
variable {Γ : Gl0} {k : Nat} {c : SC} {X : Cx} {W : WX}
theorem PG_mono {e : Expr} {t t' : TG} (h : PG X e t) (hh : ∀ v σ H Q, t' v σ H Q → t v σ H Q) : PG X e t' := ⟨fun pins s σ H v u Q I r q => h.run pins s σ H v u Q I r (hh v σ H Q q)⟩
theorem PGs_mono {e : List Expr} {t t' : TGs} (h : PGs X e t) (hh : ∀ v σ H Q, t' v σ H Q → t v σ H Q) : PGs X e t' := ⟨fun pins s σ H v u Q I r q => h.run pins s σ H v u Q I r (hh v σ H Q q)⟩
theorem loc_ok {x : Str} (hx : XOk Γ k c X W) (h : locB c x = true) : L2.Loc X.env.scope x ∧ (X.fn x = true ∨ X.env.scope.names.lookup x = some .local) := by
  rw [hx.hsc, hx.hfn]
  unfold locB at h
  unfold L2.Loc
  split at h
  · next e => exact ⟨.inl e, .inr e⟩
  · next e => exact ⟨.inr e, .inl h⟩
  · cases h
theorem kg_name {i : Nat} {x : Str} {pos : Pos} (hx : XOk Γ k c X W) (h1 : c.N[i]? = some x) (h2 : locB c x = true) : PG X (.Name x pos) (TG1 X.K [i] (asgT (callN Γ.prog Γ.wf k) (.name i))) := by
  obtain ⟨hl, hf⟩ := loc_ok hx h2
  refine PG_mono (pg_name (i := i) (by rw [hx.hN]; exact hx.nd) (by rw [hx.hN]; exact h1) hl hf) ?_
  rintro v σ H Q ⟨w, sl, st, x, R, S, r, q⟩
  exact q w H (Wd.Le.refl w) R _ (S.set i r) (Agree.set σ i _)
theorem kgs_nil {vs : List Nat} : PGs X [] (TGs1 X.K vs (asgTs (callN Γ.prog Γ.wf k) .nil)) := by
  refine PGs_mono pgs_nil ?_
  rintro v σ H Q ⟨w, sl, st, x, σ₀, R, S, r, ag, q⟩
  cases r with
  | nil => exact ⟨rfl, q w H (Wd.Le.refl w) R _ S ag⟩
  | cons h t => exact False.elim q
theorem assign_cons {e : Expr} {es : List Expr} {env : Env} (h : starB e = false) : assignEach (e :: es) env = (false, assign e env) :: assignEach es env := by cases e <;> first | rfl | cases h
theorem kgs_cons {t : Tg} {ts : Tgs} {vs v1 : List Nat} {e : Expr} {es : List Expr} (hs : starB e = false) (hv : ∀ i ∈ v1, i ∈ vs) (h1 : PG X e (TG1 X.K v1 (asgT (callN Γ.prog Γ.wf k) t))) (h2 : PGs X es (TGs1 X.K vs (asgTs (callN Γ.prog Γ.wf k) ts))) :
    PGs X (e :: es) (TGs1 X.K vs (asgTs (callN Γ.prog Γ.wf k) (.cons t ts))) := by
  refine PGs_mono (pgs_cons h1 h2 (by rw [assign_cons hs]; rfl)) ?_
  rintro v σ H Q ⟨w, sl, st, ws, σ₀, R, S, r, ag, q⟩
  cases r with
  | nil => exact False.elim q
  | @cons x y xs ys h t =>
    dsimp only [asgTs] at q
    refine ⟨x, xs, rfl, w, sl, st, y, R, S, h, (Out.bind q).imp (fun w' H' st' sl' l R' q σ' S' a => ?_) fun _ _ _ _ _ _ _ q => q⟩
    exact ⟨w', sl', st', ys, σ₀, R', S', t.le l, ag.trans (a.mono hv), q⟩
theorem noStar_each {env : Env} : ∀ {es : List Expr}, es.any starB = false → (assignEach es env).length = es.length ∧ (assignEach es env).findIdx? (·.1) = none
  | [], _ => ⟨rfl, rfl⟩
  | e :: es, h => by
    simp only [List.any_cons, Bool.or_eq_false_iff] at h
    obtain ⟨h1, h2⟩ := noStar_each (env := env) h.2
    rw [assign_cons h.1]
    refine ⟨by simp [h1], ?_⟩
    rw [List.findIdx?_cons]
    simp [h2]
theorem len_Tgs {T : PT0} {c : SC} : ∀ {ts : Tgs} {es : List Expr}, mtTs T c ts es = true → ts.len = es.length ∧ es.any starB = false
  | .nil, es, h => by
    simp only [mtTs] at h
    cases es with
    | nil => exact ⟨rfl, rfl⟩
    | cons _ _ => cases h
  | .cons t ts, [], h => by simp only [mtTs] at h; cases h
  | .cons t ts, e :: es, h => by
    simp only [mtTs, Bool.and_eq_true, Bool.not_eq_true'] at h
    obtain ⟨h1, h2⟩ := len_Tgs h.2
    exact ⟨by simp [Tgs.len, h1], by simp [h.1.1, h2]⟩
theorem kg_tup {ts : Tgs} {vs : List Nat} {es : List Expr} {j : Nat} {pos : Pos} (hx : X.calm = true) (hm : mtTs Γ.T c ts es = true) (h : PGs X es (TGs1 X.K vs (asgTs (callN Γ.prog Γ.wf k) ts))) :
    PG X (.Tuple es j pos) (TG1 X.K vs (asgT (callN Γ.prog Γ.wf k) (.tup ts))) := by
  obtain ⟨h3, h4⟩ := len_Tgs hm
  obtain ⟨h1, h2⟩ := noStar_each (env := X.env) h4
  refine PG_mono (pg_tupL hx h h1 h2) ?_
  rintro v σ H Q ⟨w, sl, st, x, R, S, r, q⟩
  dsimp only [asgT] at q
  split at q
  · next ws e =>
    split at q
    · next hl =>
      obtain ⟨p, xs, rfl, hp, z, rr⟩ := asSeq_ok R r e
      refine ⟨p, xs, rfl, ?_, by rw [rr.length, hl, h3], w, sl, st, ws, σ, R, S, rr, Agree.refl _ _, q⟩
      rcases hp with hp | ⟨hp, _⟩
      · exact .inr hp
      · exact .inl (SqT.of hp)
    · exact False.elim q
  · exact False.elim q
theorem repl_ok {w : Wd} {key : Key} {x : MP.W} {v : V} (hr : Rep X.K w v x) : ∀ {kvs : List (Key × V)} {vs : List MP.W}, Reps X.K w (kvs.map (·.2)) vs →
    Reps X.K w ((kvs.map fun kv => if kv.1 = key then (kv.1, v) else kv).map (·.2)) (repl key x (kvs.map (·.1)) vs) ∧ (kvs.map fun kv => if kv.1 = key then (kv.1, v) else kv).map (·.1) = kvs.map (·.1)
  | [], vs, r => by cases r; exact ⟨.nil, rfl⟩
  | (k', u) :: kvs, vs, r => by
    cases r with
    | cons h1 t =>
      obtain ⟨i1, i2⟩ := repl_ok hr t
      simp only [List.map_cons, repl]
      by_cases e : k' = key
      · simp only [e, if_true]
        exact ⟨.cons hr i1, by rw [i2]⟩
      · simp only [e, if_false]
        exact ⟨.cons h1 i1, by rw [i2]⟩
theorem put_ok {w : Wd} {key : Key} {x : MP.W} {v : V} (hr : Rep X.K w v x) {kvs : List (Key × V)} {vs : List MP.W} (r : Reps X.K w (kvs.map (·.2)) vs) :
    (putK kvs key v).map (·.1) = (putKey key x (kvs.map (·.1)) vs).1 ∧ Reps X.K w ((putK kvs key v).map (·.2)) (putKey key x (kvs.map (·.1)) vs).2 ∧ (putK kvs key v).length ≤ kvs.length + 1 := by
  unfold putK putKey
  have e : (kvs.any fun kv => decide (kv.1 = key)) = (kvs.map (·.1)).any (fun k' => decide (k' = key)) := by rw [List.any_map]; rfl
  rw [e]
  by_cases h : ((kvs.map (·.1)).any (fun k' => decide (k' = key))) = true
  · rw [if_pos h, if_pos h]
    obtain ⟨i1, i2⟩ := repl_ok (key := key) hr r
    exact ⟨i2, i1, by simp⟩
  · rw [if_neg h, if_neg h]
    refine ⟨by simp, ?_, by simp⟩
    rw [List.map_append]
    exact r.append (Reps.one hr)
/-- o[i] = v, by values -/
theorem setSub (hu : X.A.units + 100 < cLine) : PSet X (fun o i v H Q => ∃ w st a b x, RS X.K w st H ∧ Rep X.K w o a ∧ Rep X.K w i b ∧ Rep X.K w v x ∧ Out X.K (setW a b x st) w (fun _ H' _ _ => Q H') NoE) := by
  intro pins s σ H o i v ov iv u Q I ro ri rv ⟨w, st, a, b, x, R, ra, rb, rx, h⟩
  have dct : ∀ (n : Nat) (key : Key) (ks : List Key) (vs : List MP.W), a = .cell n → i = kV key → st[n]? = some (.dct ks vs) → ks.length < LIM → (∀ w' H', w.Le w' → RS X.K w' (st.set n (.dct (putKey key x ks vs).1 (putKey key x ks vs).2)) H' → Q H') →
      wpAny (model X.prog X.w) X.A (setItem ov iv u) (fun _ s' => ∃ H', Inv X pins σ H' s' ∧ Q H') X.xe s := by
    intro n key ks vs hn hi e hl h
    subst hn
    cases ra with
    | @cell a _ hρ =>
      obtain ⟨kvs, e1, e2, e3, e4, e5⟩ := R.cells n a _ hρ e
      subst e4
      obtain ⟨p1, p2, p3⟩ := put_ok (key := key) rx e5
      have hz : kvs.length < sizeLine := by
        have : kvs.length < LIM := by simpa using hl
        exact Nat.lt_of_lt_of_le this (by decide)
      subst hi
      cases ro
      refine d_setItem (by omega) I (DPut.k e1 hz) ri rv fun s' I' => ⟨_, I', ?_⟩
      have R' := R.write (c := .dct (putKey key x (kvs.map (·.1)) vs).1 (putKey key x (kvs.map (·.1)) vs).2) (o := .dK (putK kvs key v)) hρ e2 ⟨_, upd_same, e2, by omega, p1, p2⟩
      exact h w _ (Wd.Le.refl w) R'
  unfold setW at h
  split at h
  · next n j =>
    cases rb
    split at h
    · next ws e =>
      split at h
      · next jj ej =>
        obtain ⟨p, xs', rfl, h1, h2, h3, h4, h5⟩ := live_ok R ra e
        refine set_list pins s σ H _ _ v ov iv u Q I ro ri rv ⟨p, xs', j, jj, rfl, rfl, h2, by rw [h5.length]; exact ej, ?_⟩
        have R' := R.write (c := .lst (ws.set jj x)) (o := .lst (xs'.set jj v)) h1 h3 ⟨_, upd_same, h3, by simpa using h4, h5.set rx jj⟩
        exact h w _ (Wd.Le.refl w) R'
      · exact False.elim h
    · next ks vs e =>
      split at h
      · next hl => exact dct n (.inl j) ks vs rfl rfl e hl h
      · exact False.elim h
    · exact False.elim h
  · next n z =>
    cases rb
    split at h
    · next ks vs e =>
      split at h
      · next hl => exact dct n (.inr z) ks vs rfl rfl e hl h
      · exact False.elim h
    · exact False.elim h
  · exact False.elim h
theorem kg_sub {eo ei : E} {x y : Expr} {pos : Pos} (hx : XOk Γ k c X W) (hs : sliceB y = false) (ho : PE X x (TE1 Γ X.K W (evE (callN Γ.prog Γ.wf k) eo))) (hi : PE X y (TE1 Γ X.K W (evE (callN Γ.prog Γ.wf k) ei))) :
    PG X (.Subscript x y pos) (TG1 X.K [] (asgT (callN Γ.prog Γ.wf k) (.sub eo ei))) := by
  refine PG_mono (pg_sub ho hi (setSub (RMU hx.room)) (by intro v; cases y <;> first | rfl | cases hs)) ?_
  rintro v σ H Q ⟨w, sl, st, z, R, S, r, q⟩
  dsimp only [asgT] at q
  refine ⟨w, sl, st, R, S, (Out.bind q).imp (fun w1 H1 st1 a l1 R1 q u ru => ?_) fun _ _ _ _ _ _ _ q => False.elim q⟩
  refine ⟨w1, sl, st1, R1, S.le l1, (Out.bind q).imp (fun w2 H2 st2 b l2 R2 q u' ru' => ?_) fun _ _ _ _ _ _ _ q => False.elim q⟩
  refine ⟨w2, st2, a, b, z, R2, ru.le l2, ru', (r.le l1).le l2, (Out.bind q).imp (fun w3 H3 st3 _ l3 R3 q => ?_) fun _ _ _ _ _ _ _ q => q⟩
  exact q w3 H3 (Wd.Le.refl _) R3 σ (((S.le l1).le l2).le l3) (Agree.refl _ _)
end
end MP
/-! MP9e: enumerate over a list or a tuple, from a count. -/
namespace MP
open PySem PySem.Spec PyProof.Rows L2
section
open Sem (wp)
set_option maxHeartbeats 1000000 in
theorem new_enum1 {v : Value} {o : Obj} {H : Heap → Prop} (B : Begins v o H) :
    Meets (Builtin.«enumerate.__new__» ⟨[.type "enumerate", v], []⟩) (fun _ R s => H s.heap ∧
      R (.ok (.ret (.ref (s.heap.push o).objs.size))) { s with heap := (s.heap.push o).push { cls := .type "enumerate", data := .fields #[.none, .bool false, .ref s.heap.objs.size, rawInt 0, .none, .none] } }) :=
  .of_wp fun prog w A R s h => by
    obtain ⟨hp, g, d, tk, os⟩ := s
    obtain ⟨h1, h⟩ := h
    have hsub := sub_enumerate
    have goes : ∀ {A' : Around} {E : Value → Shared → Prop} {Q : Value → Shared → Prop}, Q (.ref hp.objs.size) ⟨hp.push o, g, d, tk, os⟩ → wpAny (model prog w) A' (pyIter v) Q E ⟨hp, g, d, tk, os⟩ :=
      fun q => B.iter prog w _ _ ⟨hp, g, d, tk, os⟩ _ h1 q
    wp_walk using goes
    refine wpAny_stack_any fun st => wpAny_pure ?_
    split
    · rename_i c _ _ _ _ _
      cases (c == Value.type "enumerate") <;> (wp_walk using goes; exact ⟨_, rfl, h⟩)
    · wp_walk using goes
      exact ⟨_, rfl, h⟩
end
section
variable {prog : Program} {w : World} {A : Around} {E : Value → Shared → Prop} {s : Shared}
theorem call_enum1 {v : Value} {o : Obj} {H : Heap → Prop} {Q : Value → Shared → Prop} (B : Begins v o H) (h1 : H s.heap)
    (h : ∀ h', IsEnum h' (s.heap.objs.size + 1) s.heap.objs.size 0 .none → h'.get? s.heap.objs.size = some o → h'.objs.size = s.heap.objs.size + 2 → (∀ b o, s.heap.get? b = some o → h'.get? b = some o) → Q (.ref (s.heap.objs.size + 1)) { s with heap := h' }) :
    wpAny (model prog w) A (call (.type "enumerate") [v]) Q E s := by
  refine callType_new F.called_enumerate (by decide) (F.typeCall_enumerate_1 _) (F.newCall_enumerate_1 _) (fun obj => F.args_object_init_2 obj _) F.entry_enumerate_new (new_enum1 B) ⟨h1, ?_⟩
  have hz : (s.heap.push o).objs.size = s.heap.objs.size + 1 := Heap.size_push ..
  show _ ∧ _
  rw [hz]
  have he : IsEnum ((s.heap.push o).push { cls := .type "enumerate", data := .fields #[.none, .bool false, .ref s.heap.objs.size, rawInt 0, .none, .none] }) (s.heap.objs.size + 1) s.heap.objs.size 0 .none := by
    have z := Heap.get?_push_size (s.heap.push o) (o := { cls := .type "enumerate", data := .fields #[.none, .bool false, .ref s.heap.objs.size, rawInt 0, .none, .none] }) rfl
    rw [hz] at z; exact z
  exact ⟨⟨_, he, rfl⟩, h _ he (Heap.get?_push_of_some _ (Heap.get?_push_size _ B.free)) (by rw [Heap.size_push, hz]) fun b o x => Heap.get?_push_of_some _ (Heap.get?_push_of_some _ x)⟩
end
/-- enumerate over a list from k0 -/
def IeL (K : PySem.W.Frag) (a : Addr) (k0 : Int) : L2.It :=
  ⟨fun i H => ∃ (xs : List V) (x : V), SqL K H a xs ∧ xs[i]? = some x, fun i H v H' => ∃ T x, v = .ref T ∧ H T = none ∧ H' = upd H T (.tup [.int (k0 + (i : Nat)), x]) ∧ ∀ xs, SqL K H a xs → xs[i]? = some x, fun i H => ∃ xs : List V, SqL K H a xs ∧ xs.length ≤ i⟩
theorem turn_ieL {P : Program} {w : World} {K : PySem.W.Frag} {elts : List Expr} {kk : Nat} {tpos : Pos} (a e it : Addr) (k0 : Int) :
    Turn P w K (.Tuple elts kk tpos) (IeL K a k0) [e, it] e (fun i h => (∃ old, IsEnum h e it (k0 + (i : Nat)) old) ∧ h.IsListIter it a i ∧ e ≠ it) where
  mem := by simp
  obj := fun i h st b hb => by
    obtain ⟨⟨old, he⟩, ⟨o, ho, hc, hd⟩, _⟩ := st
    rcases (show b = e ∨ b = it by simpa using hb) with z | z
    · rw [z]
      exact ⟨_, he, fun v q => nomatch q⟩
    · rw [z]
      exact ⟨o, ho, fun v q => by rw [hd] at q; cases q⟩
  keep := fun i h h' st k => by
    obtain ⟨⟨old, he⟩, hi, hne⟩ := st
    exact ⟨⟨old, k e (by simp) _ he⟩, hi.at fun o q => k it (by simp) o q, hne⟩
  item := by
    intro X hP hw hK hc i pins s σ H E I hf st hg
    subst hP; subst hw; subst hK
    obtain ⟨⟨old, he⟩, hit, hne⟩ := st
    obtain ⟨xs, x, hq, hx⟩ := hg
    obtain ⟨its, rv, p, hz⟩ := I.list hq
    have p2 : s.heap.IsList a its.toArray := p.isList
    obtain ⟨u, hu, ru⟩ := rv.get hx
    have hel : e < s.heap.objs.size := Heap.lt_size he
    have hil : it < s.heap.objs.size := by obtain ⟨_, q, _⟩ := hit; exact Heap.lt_size q
    have ae : e ≠ a := fun z => by subst z; obtain ⟨o1, q1, q2, _⟩ := p2; rw [show s.heap.get? e = some _ from he] at q1; cases q1; exact absurd (Value.type.inj q2) (by decide)
    have ai : a ≠ it := fun z => by subst z; obtain ⟨o1, q1, q2, _⟩ := p2; obtain ⟨o3, q3, q4, _⟩ := hit; rw [q1] at q3; cases q3; rw [q2] at q4; exact absurd (Value.type.inj q4) (by decide)
    have hh : X.A.in1.handled = none := I.ok.hd hc
    have hlt : i < its.toArray.size := by
      have := rv.length
      rcases Nat.lt_or_ge i xs.length with z | z
      · simp; omega
      · rw [List.getElem?_eq_none z] at hx; cases hx
    refine wpAny_pyNext_enum_itemC (Draws.list hh it a ai its.toArray) he ⟨hit, p2⟩ hlt hne (by simp [hne, ae]) fun y h' tk hy ho hst hT hsz hk => ?_
    have hy' : y = u := by
      have hy : its.toArray[i]? = some y := hy
      have : its[i]? = some y := by simpa using hy
      rw [hu] at this; cases this; rfl
    subst hy'
    refine ⟨_, rfl, wpAny_letOwnedTupleGo_enum (s := { s with heap := h', toks := tk + 1 }) ho fun h'' he' sb => ?_⟩
    have hT2 := (sb.2 _ (Nat.ne_of_gt hel)).trans hT
    have new : ObjOk X.prog X.w (upd H s.heap.objs.size (.tup [.int (k0 + (i : Nat)), x])) h'' s.heap.objs.size (.tup [.int (k0 + (i : Nat)), x]) :=
      ⟨by show 2 ≤ sizeLine; decide, [.int (k0 + (i : Nat)) tk, y], .cons ⟨_, rfl⟩ (.cons ru .nil), ⟨_, hT2, rfl, _, rfl⟩⟩
    have I1 : Inv X pins σ (upd H s.heap.objs.size (.tup [.int (k0 + (i : Nat)), x])) { s with heap := h'', toks := tk + 1 } :=
      I.turnedNew (ch := [e, it]) (fun b ob hb q => (sb.2 b (fun z => hb (by simp [z]))).trans (hk b ob (fun z => hb (by simp [z])) (fun z => hb (by simp [z])) q)) hf (Nat.le_refl _) new
    refine ⟨.ref s.heap.objs.size, _, I1, rfl, ⟨_, x, rfl, I.hok.fresh (Nat.le_refl _), rfl, fun ys hy => by rw [I.list_inj hy hq]; exact hx⟩, ⟨⟨y, ?_⟩, hst.1.at fun o q => (sb.2 it (Ne.symm hne)).trans q, hne⟩, fun b hb => ?_⟩
    · rw [show k0 + ((i + 1 : Nat) : Int) = k0 + (i : Nat) + 1 by omega]; exact he'
    · have hb' : b < s.heap.objs.size := by
        rcases (show b = e ∨ b = it by simpa using hb) with z | z
        · rw [z]; exact hel
        · rw [z]; exact hil
      rw [upd_ne (Nat.ne_of_lt hb')]
      exact (hf b hb).1
  done := by
    intro X hP hw hK hc i pins s σ H E I hf st hg
    subst hP; subst hw; subst hK
    obtain ⟨⟨old, he⟩, hit, hne⟩ := st
    obtain ⟨xs, hq, hx⟩ := hg
    obtain ⟨its, rv, p, hz⟩ := I.list hq
    have p2 : s.heap.IsList a its.toArray := p.isList
    obtain ⟨f0, f1, f2, f3, f4, f5⟩ := hf it (by simp)
    have hl := rv.length
    have hh : X.A.in1.handled = none := I.ok.hd hc
    have D : Draws X.prog X.w X.A.in1 it [it, a] i (fun _ _ => True) (fun j h => j = i ∧ h.IsListIter it a i ∧ h.IsList a its.toArray) := {
      live := fun _ _ st => by obtain ⟨_, ⟨o, ho, _⟩, _⟩ := st; exact ⟨o, ho⟩
      frame := fun _ _ _ st hk => ⟨st.1, st.2.1.at fun o e => hk it (by simp) o e, st.2.2.at fun o e => hk a (by simp) o e⟩
      item := fun j s Q E hj st _ => absurd st.1 (Nat.ne_of_lt hj)
      done := fun s Q E st hE => wpAny_nextOf_list_end hh st.2.1 st.2.2 (by simp; omega) hE }
    exact wpAny_pyNext_enum_endD D he ⟨rfl, hit, p2⟩ fun h' eb => ⟨rfl, I.turned (t' := s.toks) (fun b o hb q => eb b o hb q) f0 f1 f3 f4 f5⟩
  self := fun A i s Q E st h => by
    obtain ⟨⟨_, he⟩, _⟩ := st
    exact wpAny_pyIter_enum he h
/-- enumerate over a tuple from k0 -/
def IeT (K : PySem.W.Frag) (a : Addr) (k0 : Int) : L2.It :=
  ⟨fun i H => ∃ (xs : List V) (x : V), SqT K H a xs ∧ xs[i]? = some x, fun i H v H' => ∃ T x, v = .ref T ∧ H T = none ∧ H' = upd H T (.tup [.int (k0 + (i : Nat)), x]) ∧ ∀ xs, SqT K H a xs → xs[i]? = some x, fun i H => ∃ xs : List V, SqT K H a xs ∧ xs.length ≤ i⟩
theorem turn_ieT {P : Program} {w : World} {K : PySem.W.Frag} {elts : List Expr} {kk : Nat} {tpos : Pos} (a e it : Addr) (k0 : Int) :
    Turn P w K (.Tuple elts kk tpos) (IeT K a k0) [e, it] e (fun i h => (∃ old, IsEnum h e it (k0 + (i : Nat)) old) ∧ h.IsTupleIter it a i ∧ e ≠ it) where
  mem := by simp
  obj := fun i h st b hb => by
    obtain ⟨⟨old, he⟩, ⟨o, ho, hc, hd⟩, _⟩ := st
    rcases (show b = e ∨ b = it by simpa using hb) with z | z
    · rw [z]
      exact ⟨_, he, fun v q => nomatch q⟩
    · rw [z]
      exact ⟨o, ho, fun v q => by rw [hd] at q; cases q⟩
  keep := fun i h h' st k => by
    obtain ⟨⟨old, he⟩, hi, hne⟩ := st
    exact ⟨⟨old, k e (by simp) _ he⟩, hi.at fun o q => k it (by simp) o q, hne⟩
  item := by
    intro X hP hw hK hc i pins s σ H E I hf st hg
    subst hP; subst hw; subst hK
    obtain ⟨⟨old, he⟩, hit, hne⟩ := st
    obtain ⟨xs, x, hq, hx⟩ := hg
    obtain ⟨its, rv, p, hz⟩ := I.tuple hq
    have p2 : s.heap.IsTuple a its.toArray := p
    obtain ⟨u, hu, ru⟩ := rv.get hx
    have hel : e < s.heap.objs.size := Heap.lt_size he
    have hil : it < s.heap.objs.size := by obtain ⟨_, q, _⟩ := hit; exact Heap.lt_size q
    have ae : e ≠ a := fun z => by subst z; obtain ⟨o1, q1, q2, _⟩ := p2; rw [show s.heap.get? e = some _ from he] at q1; cases q1; exact absurd (Value.type.inj q2) (by decide)
    have ai : a ≠ it := fun z => by subst z; obtain ⟨o1, q1, q2, _⟩ := p2; obtain ⟨o3, q3, q4, _⟩ := hit; rw [q1] at q3; cases q3; rw [q2] at q4; exact absurd (Value.type.inj q4) (by decide)
    have hh : X.A.in1.handled = none := I.ok.hd hc
    have hlt : i < its.toArray.size := by
      have := rv.length
      rcases Nat.lt_or_ge i xs.length with z | z
      · simp; omega
      · rw [List.getElem?_eq_none z] at hx; cases hx
    refine wpAny_pyNext_enum_itemC (Draws.tuple hh it a ai its.toArray) he ⟨hit, p2⟩ hlt hne (by simp [hne, ae]) fun y h' tk hy ho hst hT hsz hk => ?_
    have hy' : y = u := by
      have hy : its.toArray[i]? = some y := hy
      have : its[i]? = some y := by simpa using hy
      rw [hu] at this; cases this; rfl
    subst hy'
    refine ⟨_, rfl, wpAny_letOwnedTupleGo_enum (s := { s with heap := h', toks := tk + 1 }) ho fun h'' he' sb => ?_⟩
    have hT2 := (sb.2 _ (Nat.ne_of_gt hel)).trans hT
    have new : ObjOk X.prog X.w (upd H s.heap.objs.size (.tup [.int (k0 + (i : Nat)), x])) h'' s.heap.objs.size (.tup [.int (k0 + (i : Nat)), x]) :=
      ⟨by show 2 ≤ sizeLine; decide, [.int (k0 + (i : Nat)) tk, y], .cons ⟨_, rfl⟩ (.cons ru .nil), ⟨_, hT2, rfl, _, rfl⟩⟩
    have I1 : Inv X pins σ (upd H s.heap.objs.size (.tup [.int (k0 + (i : Nat)), x])) { s with heap := h'', toks := tk + 1 } :=
      I.turnedNew (ch := [e, it]) (fun b ob hb q => (sb.2 b (fun z => hb (by simp [z]))).trans (hk b ob (fun z => hb (by simp [z])) (fun z => hb (by simp [z])) q)) hf (Nat.le_refl _) new
    refine ⟨.ref s.heap.objs.size, _, I1, rfl, ⟨_, x, rfl, I.hok.fresh (Nat.le_refl _), rfl, fun ys hy => by rw [I.tuple_inj hy hq]; exact hx⟩, ⟨⟨y, ?_⟩, hst.1.at fun o q => (sb.2 it (Ne.symm hne)).trans q, hne⟩, fun b hb => ?_⟩
    · rw [show k0 + ((i + 1 : Nat) : Int) = k0 + (i : Nat) + 1 by omega]; exact he'
    · have hb' : b < s.heap.objs.size := by
        rcases (show b = e ∨ b = it by simpa using hb) with z | z
        · rw [z]; exact hel
        · rw [z]; exact hil
      rw [upd_ne (Nat.ne_of_lt hb')]
      exact (hf b hb).1
  done := by
    intro X hP hw hK hc i pins s σ H E I hf st hg
    subst hP; subst hw; subst hK
    obtain ⟨⟨old, he⟩, hit, hne⟩ := st
    obtain ⟨xs, hq, hx⟩ := hg
    obtain ⟨its, rv, p, hz⟩ := I.tuple hq
    have p2 : s.heap.IsTuple a its.toArray := p
    obtain ⟨f0, f1, f2, f3, f4, f5⟩ := hf it (by simp)
    have hl := rv.length
    have hh : X.A.in1.handled = none := I.ok.hd hc
    have D : Draws X.prog X.w X.A.in1 it [it, a] i (fun _ _ => True) (fun j h => j = i ∧ h.IsTupleIter it a i ∧ h.IsTuple a its.toArray) := {
      live := fun _ _ st => by obtain ⟨_, ⟨o, ho, _⟩, _⟩ := st; exact ⟨o, ho⟩
      frame := fun _ _ _ st hk => ⟨st.1, st.2.1.at fun o e => hk it (by simp) o e, st.2.2.at fun o e => hk a (by simp) o e⟩
      item := fun j s Q E hj st _ => absurd st.1 (Nat.ne_of_lt hj)
      done := fun s Q E st hE => wpAny_nextOf_tuple_end hh st.2.1 st.2.2 (by simp; omega) hE }
    exact wpAny_pyNext_enum_endD D he ⟨rfl, hit, p2⟩ fun h' eb => ⟨rfl, I.turned (t' := s.toks) (fun b o hb q => eb b o hb q) f0 f1 f3 f4 f5⟩
  self := fun A i s Q E st h => by
    obtain ⟨⟨_, he⟩, _⟩ := st
    exact wpAny_pyIter_enum he h
/-- enumerate(e) -/
def iEnumA (K : PySem.W.Frag) (ta : TA) : TI := fun σ H R => ta σ H fun vs H1 => ∃ a xs, vs = [.ref a] ∧ ((SqL K H1 a xs ∧ R (IeL K a 0) H1) ∨ (SqT K H1 a xs ∧ R (IeT K a 0) H1))
theorem pi_enumA {X : Cx} {e : Expr} {ta : TA} {p pos tpos : Pos} {elts : List Expr} {kk : Nat} (hg : Gl X "enumerate") (hm : X.mg "enumerate" = none) (ha : PA X [e] ta) (hs : starEach [e] X.env = [(false, eval e X.env)]) :
    L2.PI X (.Tuple elts kk tpos) (.Call (.Name "enumerate" p) [e] [] pos) (iEnumA X.K ta) := by
  refine ⟨fun pins s σ H R I h => ?_⟩
  refine Call_ (ld_blt I hg hm boot_enumerate (PyProof.Rows.callWith_type1 (thn (ha.run pos pins s σ H _ I h) fun us s1 ⟨vs, H1, I1, r1, q1⟩ => ?_) hs rfl))
  obtain ⟨a, xs, ex, hq⟩ := q1
  subst ex
  cases r1 with
  | cons r rr =>
  cases rr
  cases r
  have fresh2 : ∀ b ∈ [s1.heap.objs.size + 1, s1.heap.objs.size], FpOk X pins H1 b := fun b hb => by
    have hle : s1.heap.objs.size ≤ b := by
      rcases (show b = s1.heap.objs.size + 1 ∨ b = s1.heap.objs.size by simpa using hb) with z | z
      · rw [z]; exact Nat.le_add_right _ _
      · rw [z]; exact Nat.le_refl _
    exact I1.fpOk hle (I1.hok.fresh hle)
  rcases hq with ⟨hq, q⟩ | ⟨hq, q⟩
  · obtain ⟨its, rv, p', hz⟩ := I1.list hq
    refine call_enum1 (begins_list a its.toArray) p'.isList fun h' he hit hsz hk => wpAny_pyIter_enum he ?_
    have I2 : Inv X pins σ H1 { s1 with heap := h' } := I1.kept (t' := s1.toks) hk
    exact ⟨_, _, _, _, H1, rfl, I2, turn_ieL a (s1.heap.objs.size + 1) s1.heap.objs.size 0, ⟨⟨.none, he⟩, ⟨_, hit, rfl, rfl⟩, Nat.succ_ne_self _⟩, fresh2, q⟩
  · obtain ⟨its, rv, p', hz⟩ := I1.tuple hq
    refine call_enum1 (begins_tuple a its.toArray) p' fun h' he hit hsz hk => wpAny_pyIter_enum he ?_
    have I2 : Inv X pins σ H1 { s1 with heap := h' } := I1.kept (t' := s1.toks) hk
    exact ⟨_, _, _, _, H1, rfl, I2, turn_ieT a (s1.heap.objs.size + 1) s1.heap.objs.size 0, ⟨⟨.none, he⟩, ⟨_, hit, rfl, rfl⟩, Nat.succ_ne_self _⟩, fresh2, q⟩
/-- enumerate(e, k) -/
def iEnumK (K : PySem.W.Frag) (ta : TA) : TI := fun σ H R => ta σ H fun vs H1 => ∃ a k0 xs, vs = [.ref a, .int k0] ∧ -(2 ^ 63) ≤ k0 ∧ k0 < 2 ^ 63 ∧ ((SqL K H1 a xs ∧ R (IeL K a k0) H1) ∨ (SqT K H1 a xs ∧ R (IeT K a k0) H1))
theorem pi_enumK {X : Cx} {e e2 : Expr} {ta : TA} {p pos tpos : Pos} {elts : List Expr} {kk : Nat} (hg : Gl X "enumerate") (hm : X.mg "enumerate" = none) (ha : PA X [e, e2] ta) (hs : starEach [e, e2] X.env = (false, eval e X.env) :: starEach [e2] X.env) (hpl : (backTo pos (starEach [e2] X.env)).any (·.1) = false) :
    L2.PI X (.Tuple elts kk tpos) (.Call (.Name "enumerate" p) [e, e2] [] pos) (iEnumK X.K ta) := by
  refine ⟨fun pins s σ H R I h => ?_⟩
  refine Call_ (ld_blt I hg hm boot_enumerate (PyProof.Rows.callWith_type1 (thn (ha.run pos pins s σ H _ I h) fun us s1 ⟨vs, H1, I1, r1, q1⟩ => ?_) hs hpl))
  obtain ⟨a, k0, xs, ex, b1, b2, hq⟩ := q1
  subst ex
  cases r1 with
  | cons r rr =>
  cases rr with
  | cons r' rr =>
  cases rr
  cases r
  obtain ⟨t, rfl⟩ := r'
  have fresh2 : ∀ b ∈ [s1.heap.objs.size + 1, s1.heap.objs.size], FpOk X pins H1 b := fun b hb => by
    have hle : s1.heap.objs.size ≤ b := by
      rcases (show b = s1.heap.objs.size + 1 ∨ b = s1.heap.objs.size by simpa using hb) with z | z
      · rw [z]; exact Nat.le_add_right _ _
      · rw [z]; exact Nat.le_refl _
    exact I1.fpOk hle (I1.hok.fresh hle)
  rcases hq with ⟨hq, q⟩ | ⟨hq, q⟩
  · obtain ⟨its, rv, p', hz⟩ := I1.list hq
    refine enum_begins (begins_list a its.toArray) p'.isList b1 b2 fun h' he hit hsz hk => wpAny_pyIter_enum he ?_
    have I2 : Inv X pins σ H1 { s1 with heap := h' } := I1.kept (t' := s1.toks) hk
    exact ⟨_, _, _, _, H1, rfl, I2, turn_ieL a (s1.heap.objs.size + 1) s1.heap.objs.size k0, ⟨⟨.none, by simpa using he⟩, ⟨_, hit, rfl, rfl⟩, Nat.succ_ne_self _⟩, fresh2, q⟩
  · obtain ⟨its, rv, p', hz⟩ := I1.tuple hq
    refine enum_begins (begins_tuple a its.toArray) p' b1 b2 fun h' he hit hsz hk => wpAny_pyIter_enum he ?_
    have I2 : Inv X pins σ H1 { s1 with heap := h' } := I1.kept (t' := s1.toks) hk
    exact ⟨_, _, _, _, H1, rfl, I2, turn_ieT a (s1.heap.objs.size + 1) s1.heap.objs.size k0, ⟨⟨.none, by simpa using he⟩, ⟨_, hit, rfl, rfl⟩, Nat.succ_ne_self _⟩, fresh2, q⟩
end MP
/-! MP10: what is walked. -/
namespace MP
open PySem PySem.Spec PyProof.Rows L2
section
variable (K : PySem.W.Frag)
structure SrcJ (w0 : Wd) (src : Src) (J : L2.It) : Prop where
  goes : ∀ i w st H x, w0.Gr w → RS K w st H → src.at st i = some x → J.go i H
  yields : ∀ i w st H x v H', w0.Gr w → RS K w st H → src.at st i = some x → J.yld i H v H' → ∃ w', w.Le w' ∧ RS K w' st H' ∧ Rep K w' v x
  stops : ∀ w st H, w0.Gr w → RS K w st H → src.fin st = true → J.stop src.len H
def TI1 (Γ : Gl0) (W : WX) (m : Slots → M Src) : TI := fun σ H R => ∃ w sl st, RS K w st H ∧ SlR K w σ sl ∧ Out K (m sl st) w (fun w' H' _ src => ∀ J, SrcJ K w' src J → R J H') (EX Γ K W σ)
/-- the list at a -/
def LstS (s : Src1) (a : Addr) (w : Wd) : Prop := ∀ w' st' H', w.Gr w' → RS K w' st' H' → (∀ (i : Nat) (x : MP.W), s.at st' i = some x → ∃ xs v, SqL K H' a xs ∧ xs[i]? = some v ∧ Rep K w' v x) ∧ (s.fin st' = true → ∃ xs, SqL K H' a xs ∧ xs.length ≤ s.len)
def TupS (s : Src1) (a : Addr) (w : Wd) : Prop := ∀ w' st' H', w.Gr w' → RS K w' st' H' → (∀ (i : Nat) (x : MP.W), s.at st' i = some x → ∃ xs v, SqT K H' a xs ∧ xs[i]? = some v ∧ Rep K w' v x) ∧ (s.fin st' = true → ∃ xs, SqT K H' a xs ∧ xs.length ≤ s.len)
end
section
variable {K : PySem.W.Frag}
theorem LstS.le {s : Src1} {a : Addr} {w w' : Wd} (h : LstS K s a w) (l : w.Gr w') : LstS K s a w' := fun w2 st H l2 R => h w2 st H (l.trans l2) R
theorem TupS.le {s : Src1} {a : Addr} {w w' : Wd} (h : TupS K s a w) (l : w.Gr w') : TupS K s a w' := fun w2 st H l2 R => h w2 st H (l.trans l2) R
theorem lstS_tree {w : Wd} {a : Addr} {ws : List MP.W} (r : Rep K w (.ref a) (.lst ws)) : LstS K (.vals ws) a w := by
  intro w' st' H' l R
  have r' := r.gr l
  cases r' with
  | lst e z rr =>
    have hp := R.fr _ _ e
    refine ⟨fun i x h => ?_, fun _ => ⟨_, SqL.of hp, by rw [rr.length]; exact Nat.le_refl _⟩⟩
    obtain ⟨v, q1, q2⟩ := rr.get (show ws[i]? = some x from h)
    exact ⟨_, v, SqL.of hp, q1, q2⟩
theorem lstS_scr {w : Wd} {a : Addr} {ns : List Int} (r : Rep K w (.ref a) (.scr ns)) : LstS K (.vals (ns.map .int)) a w := by
  intro w' st' H' l R
  have r' := r.gr l
  cases r' with
  | scr e z =>
    have hp := SqL.le R.fr e
    refine ⟨fun i x h => ?_, fun _ => ⟨_, hp, by simp [Src1.len]⟩⟩
    obtain ⟨v, q1, q2⟩ := (Reps.ints (K := K) (w := w') ns).get (show (ns.map MP.W.int)[i]? = some x from h)
    exact ⟨_, v, hp, q1, q2⟩
theorem lstS_live {w : Wd} {a : Addr} {n m : Nat} (r : w.ρ[n]? = some a) : LstS K (.live n m) a w := by
  intro w' st' H' l R
  have r' := l.1 _ _ r
  refine ⟨fun i x h => ?_, fun h => ?_⟩
  · dsimp only [Src1.at] at h
    split at h
    · next ws e =>
      split at h
      · next hl =>
        obtain ⟨xs, h1, h2, h3, h4⟩ := R.cells n a _ r' e
        obtain ⟨v, q1, q2⟩ := h4.get h
        exact ⟨xs, v, SqL.of h1, q1, q2⟩
      · cases h
    · cases h
  · dsimp only [Src1.fin] at h
    split at h
    · next ws e =>
      obtain ⟨xs, h1, h2, h3, h4⟩ := R.cells n a _ r' e
      exact ⟨xs, SqL.of h1, by rw [h4.length]; simp only [decide_eq_true_eq] at h; rw [h]; exact Nat.le_refl _⟩
    · cases h
theorem tupS_tree {w : Wd} {a : Addr} {ws : List MP.W} (r : Rep K w (.ref a) (.tup ws)) : TupS K (.vals ws) a w := by
  intro w' st' H' l R
  have r' := r.gr l
  cases r' with
  | tup e z rr =>
    have hp := R.fr _ _ e
    refine ⟨fun i x h => ?_, fun _ => ⟨_, SqT.of hp, by rw [rr.length]; exact Nat.le_refl _⟩⟩
    obtain ⟨v, q1, q2⟩ := rr.get (show ws[i]? = some x from h)
    exact ⟨_, v, SqT.of hp, q1, q2⟩
theorem src1_lst {w : Wd} {st : Store} {H : Hp} {v : V} {x : MP.W} {s : Src1} (R : RS K w st H) (r : Rep K w v x) (h : src1 st x = some s) (ht : isTupW x = false) : ∃ a, v = .ref a ∧ (∃ xs, SqL K H a xs) ∧ LstS K s a w := by
  have fin : ∀ {a : Addr}, LstS K s a w → (∃ xs, SqL K H a xs) → ∃ a', V.ref a = .ref a' ∧ (∃ xs, SqL K H a' xs) ∧ LstS K s a' w := fun {a} h1 h2 => ⟨a, rfl, h2, h1⟩
  cases r with
  | lst e z rr => cases h; exact fin (lstS_tree (.lst e z rr)) ⟨_, SqL.of (R.fr _ _ e)⟩
  | tup _ _ _ => cases ht
  | scr e z => cases h; exact fin (lstS_scr (.scr e z)) ⟨_, SqL.le R.fr e⟩
  | @cell a n e =>
    dsimp only [src1] at h
    cases q : st[n]? with
    | none => rw [q] at h; cases h
    | some c =>
      rw [q] at h
      have ok := R.cells n a c e q
      cases c with
      | lst ws => cases h; obtain ⟨xs, e1, _⟩ := ok; exact fin (lstS_live e) ⟨_, SqL.of e1⟩
      | dct _ _ => cases h
      | dead y =>
        cases y with
        | lst ws =>
          cases h
          have ok' : Rep K w (.ref a) (.lst ws) := ok
          cases ok with
          | lst e1 z rr => exact fin (lstS_tree ok') ⟨_, SqL.of (R.fr _ _ e1)⟩
        | _ => cases h
  | _ => cases h
theorem src1_tup {w : Wd} {st : Store} {H : Hp} {v : V} {x : MP.W} {s : Src1} (R : RS K w st H) (r : Rep K w v x) (h : src1 st x = some s) (ht : isTupW x = true) : ∃ a, v = .ref a ∧ (∃ xs, SqT K H a xs) ∧ TupS K s a w := by
  cases r with
  | tup e z rr => cases h; exact ⟨_, rfl, ⟨_, SqT.of (R.fr _ _ e)⟩, tupS_tree (.tup e z rr)⟩
  | _ => cases ht
theorem srcJ_lst {w : Wd} {s : Src1} {a : Addr} (h : LstS K s a w) : SrcJ K w (.one s) (Itl K a) where
  goes := fun i w' st H x l R e => by obtain ⟨xs, v, q1, q2, _⟩ := (h w' st H l R).1 i x e; exact ⟨xs, v, q1, q2⟩
  yields := fun i w' st H x v H' l R e y => by
    obtain ⟨xs, v', q1, q2, q3⟩ := (h w' st H l R).1 i x e
    obtain ⟨rfl, y⟩ := y
    have := y xs q1
    rw [q2] at this; cases this
    exact ⟨w', Wd.Le.refl _, R, q3⟩
  stops := fun w' st H l R e => (h w' st H l R).2 e
theorem srcJ_tup {w : Wd} {s : Src1} {a : Addr} (h : TupS K s a w) : SrcJ K w (.one s) (Itt K a) where
  goes := fun i w' st H x l R e => by obtain ⟨xs, v, q1, q2, _⟩ := (h w' st H l R).1 i x e; exact ⟨xs, v, q1, q2⟩
  yields := fun i w' st H x v H' l R e y => by
    obtain ⟨xs, v', q1, q2, q3⟩ := (h w' st H l R).1 i x e
    obtain ⟨rfl, y⟩ := y
    have := y xs q1
    rw [q2] at this; cases this
    exact ⟨w', Wd.Le.refl _, R, q3⟩
  stops := fun w' st H l R e => (h w' st H l R).2 e
theorem srcJ_rng {w : Wd} {lo c : Int} {n : Nat} : SrcJ K w (.rng lo c n) (Itc lo c n) where
  goes := fun i w' st H x l R e => by
    dsimp only [Src.at] at e
    split at e
    · next h => exact h
    · cases e
  yields := fun i w' st H x v H' l R e y => by
    dsimp only [Src.at] at e
    split at e
    · cases e; obtain ⟨rfl, rfl⟩ := y; exact ⟨w', Wd.Le.refl _, R, .int _⟩
    · cases e
  stops := fun w' st H l R e => Nat.le_refl n
theorem srcJ_rng1 {w : Wd} {lo : Int} {n : Nat} : SrcJ K w (.rng lo 1 n) (Itr lo n) where
  goes := fun i w' st H x l R e => by
    dsimp only [Src.at] at e
    split at e
    · next h => exact h
    · cases e
  yields := fun i w' st H x v H' l R e y => by
    dsimp only [Src.at] at e
    split at e
    · cases e; obtain ⟨rfl, rfl⟩ := y; exact ⟨w', Wd.Le.refl _, R, by rw [Int.mul_one]; exact .int _⟩
    · cases e
  stops := fun w' st H l R e => Nat.le_refl n
theorem pairTree {w : Wd} {st : Store} {H : Hp} {T : Addr} {x y : V} {a b : MP.W} (R : RS K w st H) (hT : H T = none) (ra : Rep K w x a) (rb : Rep K w y b) :
    ∃ w', w.Le w' ∧ RS K w' st (upd H T (.tup [x, y])) ∧ Rep K w' (.ref T) (.tup [a, b]) := by
  obtain ⟨R', l⟩ := R.tree (o := .tup [x, y]) hT
  exact ⟨_, l, R', .tup upd_same (by show 2 ≤ sizeLine; decide) (.cons (ra.le l) (.cons (rb.le l) .nil))⟩
theorem srcJ_enL {w : Wd} {s : Src1} {a : Addr} {k0 : Int} (h : LstS K s a w) : SrcJ K w (.enum s k0) (IeL K a k0) where
  goes := fun i w' st H x l R e => by
    dsimp only [Src.at] at e
    obtain ⟨z, e, _⟩ := map_some e
    obtain ⟨xs, v, q1, q2, _⟩ := (h w' st H l R).1 i z e
    exact ⟨xs, v, q1, q2⟩
  yields := fun i w' st H x v H' l R e y => by
    dsimp only [Src.at] at e
    obtain ⟨z, e3, rfl⟩ := map_some e
    obtain ⟨xs, v', q1, q2, q3⟩ := (h w' st H l R).1 i z e3
    obtain ⟨T, u, rfl, hT, rfl, y⟩ := y
    have := y xs q1
    rw [q2] at this; cases this
    exact pairTree R hT (.int _) q3
  stops := fun w' st H l R e => (h w' st H l R).2 e
theorem srcJ_enT {w : Wd} {s : Src1} {a : Addr} {k0 : Int} (h : TupS K s a w) : SrcJ K w (.enum s k0) (IeT K a k0) where
  goes := fun i w' st H x l R e => by
    dsimp only [Src.at] at e
    obtain ⟨z, e, _⟩ := map_some e
    obtain ⟨xs, v, q1, q2, _⟩ := (h w' st H l R).1 i z e
    exact ⟨xs, v, q1, q2⟩
  yields := fun i w' st H x v H' l R e y => by
    dsimp only [Src.at] at e
    obtain ⟨z, e3, rfl⟩ := map_some e
    obtain ⟨xs, v', q1, q2, q3⟩ := (h w' st H l R).1 i z e3
    obtain ⟨T, u, rfl, hT, rfl, y⟩ := y
    have := y xs q1
    rw [q2] at this; cases this
    exact pairTree R hT (.int _) q3
  stops := fun w' st H l R e => (h w' st H l R).2 e
theorem srcJ_zip {w : Wd} {s t : Src1} {a b : Addr} (h : LstS K s a w) (h' : LstS K t b w) : SrcJ K w (.zip s t) (Itz K a b) where
  goes := fun i w' st H x l R e => by
    dsimp only [Src.at] at e
    obtain ⟨z, e, e2⟩ := MP.bind_some e
    obtain ⟨z', e2, _⟩ := map_some e2
    obtain ⟨xs, v, q1, q2, _⟩ := (h w' st H l R).1 i z e
    obtain ⟨ys, u, q3, q4, _⟩ := (h' w' st H l R).1 i z' e2
    exact ⟨xs, ys, v, u, q1, q3, q2, q4⟩
  yields := fun i w' st H x v H' l R e y => by
    dsimp only [Src.at] at e
    obtain ⟨z, e3, e2⟩ := MP.bind_some e
    obtain ⟨z', e4, rfl⟩ := map_some e2
    obtain ⟨xs, v', q1, q2, q5⟩ := (h w' st H l R).1 i z e3
    obtain ⟨ys, u', q3, q4, q6⟩ := (h' w' st H l R).1 i z' e4
    obtain ⟨T, x1, x2, rfl, hT, rfl, y1, y2⟩ := y
    have t1 := y1 xs q1
    have t2 := y2 ys q3
    rw [q2] at t1; cases t1
    rw [q4] at t2; cases t2
    exact pairTree R hT q5 q6
  stops := fun w' st H l R e => by
    simp only [Src.fin, Bool.and_eq_true] at e
    obtain ⟨xs, q1, q2⟩ := (h w' st H l R).2 e.1
    obtain ⟨ys, q3, q4⟩ := (h' w' st H l R).2 e.2
    refine ⟨xs, ys, q1, q3, ?_⟩
    show xs.length ≤ min s.len t.len ∨ ys.length ≤ min s.len t.len
    omega
theorem srcJ_zipT {w : Wd} {s t : Src1} {a b : Addr} (h : TupS K s a w) (h' : TupS K t b w) : SrcJ K w (.zip s t) (RZ.ItzT K a b) where
  goes := fun i w' st H x l R e => by
    dsimp only [Src.at] at e
    obtain ⟨z, e, e2⟩ := MP.bind_some e
    obtain ⟨z', e2, _⟩ := map_some e2
    obtain ⟨xs, v, q1, q2, _⟩ := (h w' st H l R).1 i z e
    obtain ⟨ys, u, q3, q4, _⟩ := (h' w' st H l R).1 i z' e2
    exact ⟨xs, ys, v, u, q1, q3, q2, q4⟩
  yields := fun i w' st H x v H' l R e y => by
    dsimp only [Src.at] at e
    obtain ⟨z, e3, e2⟩ := MP.bind_some e
    obtain ⟨z', e4, rfl⟩ := map_some e2
    obtain ⟨xs, v', q1, q2, q5⟩ := (h w' st H l R).1 i z e3
    obtain ⟨ys, u', q3, q4, q6⟩ := (h' w' st H l R).1 i z' e4
    obtain ⟨T, x1, x2, rfl, hT, rfl, y1, y2⟩ := y
    have t1 := y1 xs q1
    have t2 := y2 ys q3
    rw [q2] at t1; cases t1
    rw [q4] at t2; cases t2
    exact pairTree R hT q5 q6
  stops := fun w' st H l R e => by
    simp only [Src.fin, Bool.and_eq_true] at e
    obtain ⟨xs, q1, q2⟩ := (h w' st H l R).2 e.1
    obtain ⟨ys, q3, q4⟩ := (h' w' st H l R).2 e.2
    refine ⟨xs, ys, q1, q3, ?_⟩
    show xs.length ≤ min s.len t.len ∨ ys.length ≤ min s.len t.len
    omega
end
section
variable {Γ : Gl0} {k : Nat} {c : SC} {X : Cx} {W : WX}
/-- an evaluation that comes to its end, or not -/
theorem ki_seq {m : E} {tg e : Expr} (he : PE X e (TE1 Γ X.K W (evE (callN Γ.prog Γ.wf k) m))) : L2.PI X tg e (TI1 X.K Γ W (evIt (callN Γ.prog Γ.wf k) (.seq m))) := by
  refine ⟨fun pins s σ H R I h => ?_⟩
  obtain ⟨w, sl, st, R0, S, q⟩ := h
  dsimp only [evIt] at q
  have q := Out.bind q
  cases e' : evE (callN Γ.prog Γ.wf k) m sl st with
  | err => rw [e'] at q; exact False.elim q
  | exc cc x st1 =>
    rw [e'] at q
    exact (pi_list he).run pins s σ H R I ⟨w, sl, st, R0, S, by rw [e']; exact q⟩
  | ok x st1 =>
    have tupCase : isTupW x = true → wpAny (model X.prog X.w) X.A (eval e X.env) (fun v s1 => wpAny (model X.prog X.w) X.A (pyIter v) (PIE X pins σ tg R) X.xe s1) X.xe s := by
      intro ht
      refine (pi_tup he).run pins s σ H R I ⟨w, sl, st, R0, S, ?_⟩
      rw [e'] at q ⊢
      intro w' H' l R' v r
      have q := q w' H' l R'
      obtain ⟨src, e0, q⟩ := q.opt
      obtain ⟨s1, e1, rfl⟩ := map_some e0
      obtain ⟨a, rfl, hs, ls⟩ := src1_tup R' r e1 ht
      exact ⟨a, rfl, hs, q w' H' (Wd.Le.refl _) R' _ (srcJ_tup ls)⟩
    have lstCase : isTupW x = false → wpAny (model X.prog X.w) X.A (eval e X.env) (fun v s1 => wpAny (model X.prog X.w) X.A (pyIter v) (PIE X pins σ tg R) X.xe s1) X.xe s := by
      intro ht
      refine (pi_list he).run pins s σ H R I ⟨w, sl, st, R0, S, ?_⟩
      rw [e'] at q ⊢
      intro w' H' l R' v r
      have q := q w' H' l R'
      obtain ⟨src, e0, q⟩ := q.opt
      obtain ⟨s1, e1, rfl⟩ := map_some e0
      obtain ⟨a, rfl, hs, ls⟩ := src1_lst R' r e1 ht
      exact ⟨a, rfl, hs, q w' H' (Wd.Le.refl _) R' _ (srcJ_lst ls)⟩
    cases hb : isTupW x with
    | true => exact tupCase hb
    | false => exact lstCase hb
theorem reps3 {K : PySem.W.Frag} {w : Wd} {xs : List V} {x y z : MP.W} (r : Reps K w xs [x, y, z]) : ∃ v u t, xs = [v, u, t] ∧ Rep K w v x ∧ Rep K w u y ∧ Rep K w t z := by
  cases r with | cons h t => cases t with | cons h' t => cases t with | cons h'' t => cases t; exact ⟨_, _, _, rfl, h, h', h''⟩
theorem len_Es {T : PT0} {c : SC} {C : Nat → List MP.W → M MP.W} : ∀ {es : Es} {args : List Expr} {sl : Slots} {st st' : Store} {ws : List MP.W}, mtEs T c es args = true → args.any starB = false → evEs C es sl st = .ok ws st' → ws.length = args.length
  | .nil, args, sl, st, st', ws, h, hs, e => by
    simp only [mtEs] at h
    cases args with
    | nil => cases e; rfl
    | cons _ _ => cases h
  | .star m ms, args, sl, st, st', ws, h, hs, e => by
    cases args with
    | nil => simp only [mtEs] at h; cases h
    | cons a r => cases a <;> first | (simp only [mtEs] at h; cases h; done) | (simp [starB] at hs)
  | .cons m ms, args, sl, st, st', ws, h, hs, e => by
    cases args with
    | nil => simp only [mtEs] at h; cases h
    | cons a r =>
      simp only [mtEs, Bool.and_eq_true] at h
      simp only [List.any_cons, Bool.or_eq_false_iff] at hs
      dsimp only [evEs, M.bind] at e
      cases e1 : evE C m sl st with
      | err => rw [e1] at e; cases e
      | exc _ _ _ => rw [e1] at e; cases e
      | ok x st1 =>
        rw [e1] at e
        cases e2 : evEs C ms sl st1 with
        | err => simp only [e2] at e; cases e
        | exc _ _ _ => simp only [e2] at e; cases e
        | ok xs st2 =>
          simp only [e2] at e
          cases e
          simp [len_Es h.2 hs.2 e2]
theorem ki_range {es : Es} {tg : Expr} {args : List Expr} {x : Str} {p pos : Pos} (hx : XOk Γ k c X W) (hn : x = ("range" : Str)) (hg : glB c.sc x = true) (hm : mtEs Γ.T c es args = true) (hs : args.any starB = false) (h0 : 0 < args.length) (h3 : args.length ≤ 3) (ha : PA X args (TA1 Γ X.K W (evEs (callN Γ.prog Γ.wf k) es))) :
    L2.PI X tg (.Call (.Name x p) args [] pos) (TI1 X.K Γ W (evIt (callN Γ.prog Γ.wf k) (.range es))) := by
  subst hn
  have hG := gl_ok hx hg
  have hM := bi_ok hx (x := "range") (by decide +kernel)
  have main : ∀ (σ : L2.St) (H : Hp) (R : L2.It → Hp → Prop), TI1 X.K Γ W (evIt (callN Γ.prog Γ.wf k) (.range es)) σ H R →
      TA1 Γ X.K W (evEs (callN Γ.prog Γ.wf k) es) σ H fun vs H1 => vs.length = args.length ∧ ∃ lo cc n, (∀ J, (∀ w, SrcJ X.K w (.rng lo cc n) J) → R J H1) ∧
        ((∃ j, vs = [.int j] ∧ -(2 ^ 40) < j ∧ j < 2 ^ 40 ∧ lo = 0 ∧ cc = 1 ∧ n = j.toNat) ∨ (∃ i j, vs = [.int i, .int j] ∧ (-(2 ^ 40) < i ∧ i < 2 ^ 40 ∧ -(2 ^ 40) < j ∧ j < 2 ^ 40) ∧ lo = i ∧ cc = 1 ∧ n = (j - i).toNat) ∨
          ∃ i j, vs = [.int i, .int j, .int (-1)] ∧ (-(2 ^ 40) < i ∧ i < 2 ^ 40 ∧ -(2 ^ 40) < j ∧ j < 2 ^ 40) ∧ lo = i ∧ cc = -1 ∧ n = (i - j).toNat) := by
    rintro σ H R ⟨w, sl, st, R0, S, q⟩
    dsimp only [evIt] at q
    have q := Out.bind q
    refine ⟨w, sl, st, R0, S, ?_⟩
    cases ee : evEs (callN Γ.prog Γ.wf k) es sl st with
    | err => rw [ee] at q; exact False.elim q
    | exc _ _ _ => rw [ee] at q; exact q
    | ok ws st' =>
    rw [ee] at q
    have hlen := len_Es hm hs ee
    intro w' H' l R' vs r
    have q := q w' H' l R'
    refine ⟨by rw [r.length]; exact hlen, ?_⟩
    obtain ⟨src, e0, q⟩ := q.opt
    obtain ⟨⟨lo, cc, n⟩, e1, rfl⟩ := map_some e0
    refine ⟨lo, cc, n, fun J hJ => q w' H' (Wd.Le.refl _) R' J (hJ w'), ?_⟩
    unfold rangeOf at e1
    split at e1
    · obtain ⟨v, rfl, rv⟩ := reps1 r
      cases rv
      split at e1
      · next hb =>
        simp only [Bool.and_eq_true, decide_eq_true_eq] at hb
        cases e1
        exact .inl ⟨_, rfl, hb.1, hb.2, rfl, rfl, rfl⟩
      · cases e1
    · obtain ⟨v, u, rfl, rv, ru⟩ := reps2 r
      cases rv; cases ru
      split at e1
      · next hb =>
        simp only [Bool.and_eq_true, decide_eq_true_eq] at hb
        cases e1
        exact .inr (.inl ⟨_, _, rfl, ⟨hb.1.1.1, hb.1.1.2, hb.2, hb.1.2⟩, rfl, rfl, rfl⟩)
      · cases e1
    · obtain ⟨v, u, t, rfl, rv, ru, rt⟩ := reps3 r
      cases rv; cases ru; cases rt
      split at e1
      · next hb =>
        simp only [Bool.and_eq_true, decide_eq_true_eq] at hb
        obtain ⟨⟨⟨⟨b1, b2⟩, b3⟩, b4⟩, b5⟩ := hb
        cases e1
        subst b5
        exact .inr (.inr ⟨_, _, rfl, ⟨b1, b2, b4, b3⟩, rfl, rfl, rfl⟩)
      · cases e1
    · cases e1
  have mono : ∀ {t t' : TA} {σ : L2.St} {H : Hp} {Q Q' : List V → Hp → Prop}, t = TA1 Γ X.K W (evEs (callN Γ.prog Γ.wf k) es) → (∀ vs H, Q vs H → Q' vs H) → t σ H Q → t σ H Q' := by
    rintro t t' σ H Q Q' rfl hq ⟨w, sl, st, R, S, q⟩
    exact ⟨w, sl, st, R, S, q.imp (fun _ _ _ _ _ _ q vs r => hq _ _ (q vs r)) fun _ _ _ _ _ _ _ q => q⟩
  match args, hs, h0, h3, ha, main with
  | [a], hs, _, _, ha, main =>
    simp only [List.any_cons, Bool.or_eq_false_iff] at hs
    refine ⟨fun pins s σ H R I h => (pi_range1 hG hM ha (star_ok hs.1)).run pins s σ H R I (mono (t' := tNil) rfl (fun vs H1 q => ?_) (main σ H R h))⟩
    obtain ⟨hl, lo, cc, n, hR, q⟩ := q
    rcases q with ⟨j, rfl, b1, b2, rfl, rfl, rfl⟩ | ⟨i, j, rfl, _⟩ | ⟨i, j, rfl, _⟩
    · exact ⟨j, rfl, by omega, by omega, hR _ fun w => srcJ_rng1⟩
    · cases hl
    · cases hl
  | [a, b], hs, _, _, ha, main =>
    simp only [List.any_cons, Bool.or_eq_false_iff] at hs
    refine ⟨fun pins s σ H R I h => (pi_range2 hG hM ha (by rw [star_ok hs.1, star_ok hs.2.1]; rfl) (star_ok hs.2.1)).run pins s σ H R I (mono (t' := tNil) rfl (fun vs H1 q => ?_) (main σ H R h))⟩
    obtain ⟨hl, lo, cc, n, hR, q⟩ := q
    rcases q with ⟨j, rfl, _⟩ | ⟨i, j, rfl, b, rfl, rfl, rfl⟩ | ⟨i, j, rfl, _⟩
    · cases hl
    · exact ⟨_, j, rfl, by omega, hR _ fun w => srcJ_rng1⟩
    · cases hl
  | [a, b, d], hs, _, _, ha, main =>
    simp only [List.any_cons, Bool.or_eq_false_iff] at hs
    refine ⟨fun pins s σ H R I h => (pi_range3 hG hM ha (star_ok hs.1) (plain_ok (by simp [hs.2.1, hs.2.2.1]))).run pins s σ H R I (mono (t' := tNil) rfl (fun vs H1 q => ?_) (main σ H R h))⟩
    obtain ⟨hl, lo, cc, n, hR, q⟩ := q
    rcases q with ⟨j, rfl, _⟩ | ⟨i, j, rfl, _⟩ | ⟨i, j, rfl, b, rfl, rfl, rfl⟩
    · cases hl
    · cases hl
    · exact ⟨_, j, -1, _, rfl, RgC.neg (by omega) (by omega) (by omega) (by omega), hR _ fun w => srcJ_rng⟩
  | [], _, h0, _, _, _ => cases h0
  | _ :: _ :: _ :: _ :: _, _, _, h3, _, _ => simp at h3
theorem ki_enum {m : E} {elts : List Expr} {kk : Nat} {tpos p pos : Pos} {x : Str} {e : Expr} (hx : XOk Γ k c X W) (hn : x = ("enumerate" : Str)) (hg : glB c.sc x = true) (hs : starB e = false) (he : PE X e (TE1 Γ X.K W (evE (callN Γ.prog Γ.wf k) m))) :
    L2.PI X (.Tuple elts kk tpos) (.Call (.Name x p) [e] [] pos) (TI1 X.K Γ W (evIt (callN Γ.prog Γ.wf k) (.enum m))) := by
  subst hn
  refine ⟨fun pins s σ H R I h => (pi_enumA (gl_ok hx hg) (bi_ok hx (by decide +kernel)) (pa_cons he pa_nil (star_ok hs)) (star_ok hs)).run pins s σ H R I ?_⟩
  obtain ⟨w, sl, st, R0, S, q⟩ := h
  dsimp only [evIt] at q
  refine chain1 R0 S q fun w1 H1 st1 a v l1 R1 r1 q => ?_
  obtain ⟨src, e0, q⟩ := q.opt
  obtain ⟨s1, e1, rfl⟩ := map_some e0
  cases hb : isTupW a with
  | true =>
    obtain ⟨a, rfl, ⟨xs, hs⟩, ls⟩ := src1_tup R1 r1 e1 hb
    exact ⟨a, xs, rfl, .inr ⟨hs, q w1 H1 (Wd.Le.refl _) R1 _ (srcJ_enT ls)⟩⟩
  | false =>
    obtain ⟨a, rfl, ⟨xs, hs⟩, ls⟩ := src1_lst R1 r1 e1 hb
    exact ⟨a, xs, rfl, .inl ⟨hs, q w1 H1 (Wd.Le.refl _) R1 _ (srcJ_enL ls)⟩⟩
theorem ki_enumK {m n : E} {elts : List Expr} {kk : Nat} {tpos p pos : Pos} {x : Str} {e e2 : Expr} (hx : XOk Γ k c X W) (hn : x = ("enumerate" : Str)) (hg : glB c.sc x = true) (hs : starB e = false) (hs2 : starB e2 = false) (he : PE X e (TE1 Γ X.K W (evE (callN Γ.prog Γ.wf k) m))) (he2 : PE X e2 (TE1 Γ X.K W (evE (callN Γ.prog Γ.wf k) n))) :
    L2.PI X (.Tuple elts kk tpos) (.Call (.Name x p) [e, e2] [] pos) (TI1 X.K Γ W (evIt (callN Γ.prog Γ.wf k) (.enumK m n))) := by
  subst hn
  refine ⟨fun pins s σ H R I h => (pi_enumK (gl_ok hx hg) (bi_ok hx (by decide +kernel)) (pa_cons he (pa_cons he2 pa_nil (star_ok hs2)) (star_ok hs)) (star_ok hs) (by rw [star_ok hs2]; rfl)).run pins s σ H R I ?_⟩
  obtain ⟨w, sl, st, R0, S, q⟩ := h
  dsimp only [evIt] at q
  refine chain1 R0 S q fun w1 H1 st1 a v l1 R1 r1 q => ?_
  refine chain1 R1 (S.le l1) q fun w2 H2 st2 b u l2 R2 r2 q => ?_
  split at q
  case h_2 => exact False.elim q
  next i =>
  split at q
  case isFalse => exact False.elim q
  next hb =>
  simp only [Bool.and_eq_true, decide_eq_true_eq] at hb
  cases r2
  obtain ⟨src, e0, q⟩ := q.opt
  obtain ⟨s1, e1, rfl⟩ := map_some e0
  have r1 := r1.le l2
  cases hb2 : isTupW a with
  | true =>
    obtain ⟨a, rfl, ⟨xs, hs⟩, ls⟩ := src1_tup R2 r1 e1 hb2
    exact ⟨a, i, xs, rfl, by omega, by omega, .inr ⟨hs, q w2 H2 (Wd.Le.refl _) R2 _ (srcJ_enT ls)⟩⟩
  | false =>
    obtain ⟨a, rfl, ⟨xs, hs⟩, ls⟩ := src1_lst R2 r1 e1 hb2
    exact ⟨a, i, xs, rfl, by omega, by omega, .inl ⟨hs, q w2 H2 (Wd.Le.refl _) R2 _ (srcJ_enL ls)⟩⟩
theorem ki_zip {m n : E} {elts : List Expr} {kk : Nat} {tpos p pos : Pos} {x : Str} {e e2 : Expr} (hx : XOk Γ k c X W) (hn : x = ("zip" : Str)) (hg : glB c.sc x = true) (hs : starB e = false) (hs2 : starB e2 = false) (he : PE X e (TE1 Γ X.K W (evE (callN Γ.prog Γ.wf k) m))) (he2 : PE X e2 (TE1 Γ X.K W (evE (callN Γ.prog Γ.wf k) n))) :
    L2.PI X (.Tuple elts kk tpos) (.Call (.Name x p) [e, e2] [] pos) (TI1 X.K Γ W (evIt (callN Γ.prog Γ.wf k) (.zip m n))) := by
  subst hn
  refine ⟨fun pins s σ H R I h => (RZ.pi_zipA (gl_ok hx hg) (bi_ok hx (by decide +kernel)) (pa_cons he (pa_cons he2 pa_nil (star_ok hs2)) (star_ok hs)) (star_ok hs) (by rw [star_ok hs2]; rfl)).run pins s σ H R I ?_⟩
  obtain ⟨w, sl, st, R0, S, q⟩ := h
  dsimp only [evIt] at q
  refine chain1 R0 S q fun w1 H1 st1 a v l1 R1 r1 q => ?_
  refine chain1 R1 (S.le l1) q fun w2 H2 st2 b u l2 R2 r2 q => ?_
  split at q
  case isFalse => exact False.elim q
  next hb =>
  have hb := eq_of_beq hb
  obtain ⟨src, e0, q⟩ := q.opt
  obtain ⟨s1, e1, e0⟩ := MP.bind_some e0
  obtain ⟨s2, e2', rfl⟩ := map_some e0
  have r1 := r1.le l2
  cases hb2 : isTupW a with
  | true =>
    obtain ⟨a, rfl, ⟨xs, hs⟩, ls⟩ := src1_tup R2 r1 e1 hb2
    obtain ⟨b, rfl, ⟨ys, hs'⟩, ls'⟩ := src1_tup R2 r2 e2' (by rw [← hb, hb2])
    exact ⟨a, b, xs, ys, rfl, .inr ⟨hs, hs', q w2 H2 (Wd.Le.refl _) R2 _ (srcJ_zipT ls ls')⟩⟩
  | false =>
    obtain ⟨a, rfl, ⟨xs, hs⟩, ls⟩ := src1_lst R2 r1 e1 hb2
    obtain ⟨b, rfl, ⟨ys, hs'⟩, ls'⟩ := src1_lst R2 r2 e2' (by rw [← hb, hb2])
    exact ⟨a, b, xs, ys, rfl, .inl ⟨hs, hs', q w2 H2 (Wd.Le.refl _) R2 _ (srcJ_zip ls ls')⟩⟩
end
end MP
/-! MP11: list comprehensions. -/
namespace MP
open PySem PySem.Spec PyProof.Rows L2
section
variable {K : PySem.W.Frag} {α β : Type}
theorem Out.bindEq {m : M α} {f : α → M β} {st : Store} {w : Wd} {R : Wd → Hp → Store → β → Prop} (h : Out K (M.bind m f st) w R NoE) {H : Hp} (hR : RS K w st H) (hs : ∀ {c x st'}, m st = .exc c x st' → ∃ H', RS K w st' H') : ∃ a st1, m st = .ok a st1 ∧ Out K (f a st1) w R NoE := by
  unfold M.bind at h
  cases e : m st with
  | err => rw [e] at h; exact False.elim h
  | ok a st1 => rw [e] at h; exact ⟨a, st1, rfl, h⟩
  | exc c x st1 =>
    rw [e] at h
    obtain ⟨H', r⟩ := hs e
    exact False.elim (h w H' (Wd.Le.refl w) r)
theorem quiet_ok {m : M α} {st : Store} {w : Wd} {R : Wd → Hp → Store → α → Prop} {E : Wd → Hp → Store → Nat → MP.W → Prop} (h : Out K (quiet m st) w R E) : ∃ a st1, m st = .ok a st1 ∧ ∀ w' H', w.Le w' → RS K w' st1 H' → R w' H' st1 a := by
  unfold quiet at h
  cases e : m st with
  | err => rw [e] at h; exact False.elim h
  | exc _ _ _ => rw [e] at h; exact False.elim h
  | ok a st1 => rw [e] at h; exact ⟨a, st1, rfl, h⟩
theorem bind_ok {m : M α} {f : α → M β} {st st2 : Store} {b : β} (h : M.bind m f st = .ok b st2) : ∃ a st1, m st = .ok a st1 ∧ f a st1 = .ok b st2 := by
  unfold M.bind at h
  cases e : m st with
  | err => rw [e] at h; cases h
  | exc _ _ _ => rw [e] at h; cases h
  | ok a st1 => rw [e] at h; exact ⟨a, st1, rfl, h⟩
end
section
variable {Γ : Gl0} {k : Nat} {c : SC} {X : Cx} {W : WX}
theorem blk_ok {s : Shared} {H : Hp} {scope : Scope} {C : Addr} {cl : List (Str × Addr)} {fp : List Addr} (hx : XOk Γ k c X W) : XOk Γ k (blkSC c scope) (X.blk s H scope (compEnvC scope cl C X.env) fp) (fun _ _ _ _ => False) where
  gok := hx.gok
  fns := hx.fns
  hN := hx.hN
  nd := hx.nd
  hsc := by show relS scope X.env.scope = _; rw [hx.hsc]; rfl
  hfn := rfl
  calm := hx.calm
  room := hx.room
  gd := hx.gd
  tk := fun _ _ h => by obtain ⟨_, _, _, _, _, _, _, _, _, _, _, _, _, _, _, _, z⟩ := h; exact z
  pso := PassesOwn.never
def TB1 (Γ : Gl0) (K : PySem.W.Frag) (W : WX) (m : Slots → M Bool) : TT := fun σ H Q => ∃ w sl st, RS K w st H ∧ SlR K w σ sl ∧ Out K (m sl st) w (fun _ H' _ b => Q b H') (EX Γ K W σ)
/-- what a turn makes -/
abbrev stepC (C : Nat → List MP.W → M MP.W) (own : List Nat) (t : Tg) (cond : Oe) (elt : E) (sl : Slots) : MP.W → M (Option MP.W) := fun x => stepW (asgT C t x (wipeW sl own)) (evC C cond) (evE C elt)
theorem wG_gr (w : Wd) (G : Hp) : (w.wG G).Gr w := ⟨fun _ _ h => h, fun _ _ h => h⟩
theorem lcLoop_ok {src : Src} {step : MP.W → M (Option MP.W)} {r i : Nat} {acc ws : List MP.W} {st st1 : Store} (h : lcLoop src step (r + 1) i acc st = .ok ws st1) :
    ∃ x y st2, src.at st i = some x ∧ step x st = .ok y st2 ∧ lcLoop src step r (i + 1) (match y with | some z => acc ++ [z] | none => acc) st2 = .ok ws st1 := by
  dsimp only [lcLoop] at h
  cases e : src.at st i with
  | none => rw [e] at h; cases h
  | some x =>
    rw [e] at h
    obtain ⟨y, st2, h1, h2⟩ := bind_ok h
    refine ⟨x, y, st2, rfl, h1, ?_⟩
    cases y with
    | none => exact h2
    | some z => exact h2
theorem lc_law {b : Bool} {own : List Nat} {t : Tg} {it : MP.It} {cond : Oe} {elt : E} (hown : (ownOf c.N own).map (·.2) = own) (hsl : ∀ i ∈ t.slots, i ∈ own) : ∀ σ H Q, TE1 Γ X.K W (evE (callN Γ.prog Γ.wf k) (.lc b own t it cond elt)) σ H Q →
    tLc (TI1 X.K Γ W (evIt (callN Γ.prog Γ.wf k) it)) (TG1 X.K t.slots (asgT (callN Γ.prog Γ.wf k) t)) (TB1 Γ X.K (fun _ _ _ _ => False) (evC (callN Γ.prog Γ.wf k) cond)) (TE1 Γ X.K (fun _ _ _ _ => False) (evE (callN Γ.prog Γ.wf k) elt)) ((ownOf c.N own).map (·.2)) σ H Q := by
  rintro σ H Q ⟨w, sl, st, R, S, q⟩
  have q : Out X.K (M.bind (evIt (callN Γ.prog Γ.wf k) it sl) (fun src => if src.len ≤ LIM then M.bind (quiet (lcLoop src (stepC (callN Γ.prog Γ.wf k) own t cond elt sl) src.len 0 [])) fun ws => mkLst b ws else M.fail) st) w (RV (K := X.K) Q) (EX Γ X.K W σ) := q
  refine ⟨w, sl, st, R, S, (Out.bind q).imp (fun w1 H1 st1 src l1 R1 q J hJ => ?_) fun _ _ _ _ _ _ _ q => q⟩
  have S1 := S.le l1
  split at q
  case isFalse => exact False.elim q
  next lim =>
  obtain ⟨ws, st2, e2, q⟩ := quiet_ok (Out.bind q)
  intro D hD
  rw [hown]
  have hGD : w1.G D = none := by
    cases e : w1.G D with
    | none => rfl
    | some o => have := (R1.gr D o e).1; rw [hD] at this; cases this
  -- the invariant
  refine ⟨fun i m H => ∃ w' st' accV acc, w1.Gr w' ∧ RS X.K (w'.wG (upd w1.G D (.lst accV))) st' H ∧ Reps X.K w' accV acc ∧ i + m = src.len ∧ acc.length ≤ i ∧ lcLoop src (stepC (callN Γ.prog Γ.wf k) own t cond elt sl) m i acc st' = .ok ws st2,
    ⟨src.len, w1, st1, [], [], Wd.Gr.refl _, R1.open_ hD, .nil, Nat.zero_add _, Nat.le_refl _, e2⟩, ?_⟩
  rintro i m H2 ⟨w2, st3, accV, acc, g2, R2, ra, him, hla, e3⟩
  have idG : ∀ (w : Wd) (G : Hp), w.Gr (w.wG G) := fun w G => ⟨fun _ _ h => h, fun _ _ h => h⟩
  cases m with
  | zero =>
    left
    dsimp only [lcLoop] at e3
    split at e3
    · next hf =>
      cases e3
      obtain ⟨d1, d2, d3⟩ := R2.gr D _ (show upd w1.G D (.lst accV) D = _ from upd_same)
      have R3 := by
        have := R2.wG (G := w1.G) fun a o e => by
          have ne : a ≠ D := ne_of_none e hGD
          exact R2.gr a o (by show upd w1.G D _ a = _; rw [upd_ne ne]; exact e)
        exact this
      refine ⟨by have := hJ.stops _ _ H2 (g2.trans (idG _ _)) R2 hf; rw [show i = src.len by omega]; exact this, ?_⟩
      have R4 := R3.del d2 d3 hGD
      have hz : accV.length ≤ sizeLine := by rw [ra.length]; exact lim_le (by omega)
      have q := q (w2.wG w1.G) H2 g2.le R3
      rw [fin_mk] at q
      have q' := Out.laid (Q := Q) (p := D) (xs := accV) R4 del_self hz (ra.gr (idG _ _)) q
      rw [upd_del d1] at q'
      exact q'
    · cases e3
  | succ m =>
    right
    obtain ⟨x, y, st4, ex, es, e4⟩ := lcLoop_ok e3
    obtain ⟨sl2, st5, ea, es⟩ := bind_ok es
    refine ⟨hJ.goes i _ st3 H2 x (g2.trans (idG _ _)) R2 ex, fun H' => ∃ m', m' < m + 1 ∧ ∃ w' st' accV acc, w1.Gr w' ∧ RS X.K (w'.wG (upd w1.G D (.lst accV))) st' H' ∧ Reps X.K w' accV acc ∧ (i + 1) + m' = src.len ∧ acc.length ≤ i + 1 ∧ lcLoop src (stepC (callN Γ.prog Γ.wf k) own t cond elt sl) m' (i + 1) acc st' = .ok ws st2, fun H' h => h, ?_⟩
    intro v H3 hy
    obtain ⟨w3, l3, R3, rv⟩ := hJ.yields i _ st3 H2 x v H3 (g2.trans (idG _ _)) R2 ex hy
    have g3 : w2.Gr w3 := (idG _ _).trans l3.gr
    -- the target
    have Sw : SlR X.K w3 (wipe σ own) (wipeW sl own) := (S1.wipe own).gr (g2.trans g3)
    refine ⟨w3, wipeW sl own, st3, x, R3, Sw, rv, ?_⟩
    rw [ea]
    intro w4 H4 l4 R4 σ4 S4 ag
    have ag2 : wipe σ4 own = wipe σ own := by rw [(ag.mono hsl).wipe, wipe_wipe]
    refine ⟨ag2, ?_⟩
    have g4 : w2.Gr w4 := g3.trans l4.gr
    -- what stands in D
    have GD : ∀ {w' : Wd} {st' : Store} {H' : Hp}, w4.Le w' → RS X.K w' st' H' → ∃ w0, w2.Gr w0 ∧ w' = w0.wG (upd w1.G D (.lst accV)) := fun {w' st' H'} l' R' => by
      refine ⟨w', g4.trans l'.gr, ?_⟩
      have e : w'.G = upd w1.G D (.lst accV) := by rw [l'.2.2, l4.2.2, l3.2.2]; rfl
      show w' = { w' with G := _ }
      rw [← e]
    have keep : ∀ {w' : Wd} {H' : Hp}, w4.Le w' → RS X.K w' st4 H' → lcLoop src (stepC (callN Γ.prog Γ.wf k) own t cond elt sl) m (i + 1) acc st4 = .ok ws st2 → ∃ m', m' < m + 1 ∧ ∃ w' st' accV acc, w1.Gr w' ∧ RS X.K (w'.wG (upd w1.G D (.lst accV))) st' H' ∧ Reps X.K w' accV acc ∧ (i + 1) + m' = src.len ∧ acc.length ≤ i + 1 ∧ lcLoop src (stepC (callN Γ.prog Γ.wf k) own t cond elt sl) m' (i + 1) acc st' = .ok ws st2 := by
      intro w' H' l' R' e
      obtain ⟨w0, g0, rfl⟩ := GD l' R'
      exact ⟨m, Nat.lt_succ_self m, w0, st4, accV, acc, g2.trans g0, R', ra.gr g0, by omega, by omega, e⟩
    have add : ∀ {w' : Wd} {H' : Hp} {z : MP.W} {u : V}, w4.Le w' → RS X.K w' st4 H' → Rep X.K w' u z → lcLoop src (stepC (callN Γ.prog Γ.wf k) own t cond elt sl) m (i + 1) (acc ++ [z]) st4 = .ok ws st2 →
        ∃ acc', H' D = some (.lst acc') ∧ acc'.length < sizeLine ∧ ∃ m', m' < m + 1 ∧ ∃ w'' st' accV acc, w1.Gr w'' ∧ RS X.K (w''.wG (upd w1.G D (.lst accV))) st' (upd H' D (.lst (acc' ++ [u]))) ∧ Reps X.K w'' accV acc ∧ (i + 1) + m' = src.len ∧ acc.length ≤ i + 1 ∧ lcLoop src (stepC (callN Γ.prog Γ.wf k) own t cond elt sl) m' (i + 1) acc st' = .ok ws st2 := by
      intro w' H' z u l' R' ru e
      obtain ⟨w0, g0, rfl⟩ := GD l' R'
      obtain ⟨d1, _, _⟩ := R'.gr D _ (show upd w1.G D (.lst accV) D = _ from upd_same)
      refine ⟨accV, d1, ?_, m, Nat.lt_succ_self m, w0, st4, accV ++ [u], acc ++ [z], g2.trans g0, R'.more, (ra.gr g0).append (Reps.one (ru.gr (wG_gr _ _))), by omega, by simp; omega, e⟩
      rw [ra.length]
      have : acc.length < LIM := by omega
      exact Nat.lt_of_lt_of_le this (by decide)
    obtain ⟨bb, st6, eb, es⟩ := bind_ok es
    refine ⟨w4, sl2, st5, R4, S4, ?_⟩
    rw [eb]
    intro w5 H5 l5 R5
    cases bb with
    | true =>
      show if true = true then _ else _
      rw [if_pos rfl]
      obtain ⟨z, st7, ez, es⟩ := bind_ok es
      cases es
      refine ⟨w5, sl2, st6, R5, S4.le l5, ?_⟩
      rw [ez]
      intro w6 H6 l6 R6 u ru
      exact add (l5.trans l6) R6 ru e4
    | false =>
      show if false = true then _ else _
      rw [if_neg (by decide)]
      cases es
      exact keep l5 R5 e4
theorem k_lc {b : Bool} {own : List Nat} {t : Tg} {it : MP.It} {cond : Oe} {elt : E} {el tg iter : Expr} {ifs : List Expr} {scope : Scope} {pos : Pos} (hx : XOk Γ k c X W) (hset : setB iter = false)
    (hown : (ownOf c.N own).map (·.2) = own) (hsl : ∀ i ∈ t.slots, i ∈ own)
    (hi : L2.PI X tg iter (TI1 X.K Γ W (evIt (callN Γ.prog Γ.wf k) it))) (hb : L2.blkC c.N c.sc scope (ownOf c.N own) = true)
    (hg : ∀ (s : Shared) (H : Hp) (C : Addr) (cl : List (Str × Addr)) (fp : List Addr), PG (X.blk s H scope (compEnvC scope cl C X.env) fp) tg (TG1 X.K t.slots (asgT (callN Γ.prog Γ.wf k) t)))
    (ht : ∀ (s : Shared) (H : Hp) (C : Addr) (cl : List (Str × Addr)) (fp : List Addr), PTs (X.blk s H scope (compEnvC scope cl C X.env) fp) ifs (TB1 Γ X.K (fun _ _ _ _ => False) (evC (callN Γ.prog Γ.wf k) cond)))
    (he : ∀ (s : Shared) (H : Hp) (C : Addr) (cl : List (Str × Addr)) (fp : List Addr), PE (X.blk s H scope (compEnvC scope cl C X.env) fp) el (TE1 Γ X.K (fun _ _ _ _ => False) (evE (callN Γ.prog Γ.wf k) elt))) :
    PE X (.ListComp el [⟨tg, iter, ifs, 0⟩] scope pos) (TE1 Γ X.K W (evE (callN Γ.prog Γ.wf k) (.lc b own t it cond elt))) := by
  have hN : X.N.Nodup := by rw [hx.hN]; exact hx.nd
  have hbk : BlkOk X.N X.env.scope scope (ownOf c.N own) := by rw [hx.hN, hx.hsc]; exact blkOk_by hb
  exact PE_mono (pe_lc hx.calm hN hi hbk hg ht he (fun x => by cases iter <;> first | rfl | cases hset)) (lc_law hown hsl)
end
end MP
/-! MP12: every expression. -/
namespace MP
open PySem PySem.Spec PyProof.Rows L2
section
variable {Γ : Gl0} {k : Nat} {c : SC} {X : Cx} {W : WX}
theorem freeze_ok {w : Wd} {st : Store} {H : Hp} {v : V} {a : MP.W} {Q : VK} {E : Wd → Hp → Store → Nat → MP.W → Prop} (R : RS X.K w st H) (r : Rep X.K w v a) (q : Out X.K (freeze a st) w (RV (K := X.K) Q) E) : Q v H := by
  cases a with
  | cell n =>
    dsimp only [freeze] at q
    cases r with
    | @cell p _ hρ =>
      cases e : st[n]? with
      | none => rw [e] at q; exact False.elim q
      | some d =>
        rw [e] at q
        cases d with
        | lst ws =>
          obtain ⟨xs, h1, h2, h3, h4⟩ := R.cells n p _ hρ e
          obtain ⟨R', l, r'⟩ := R.freezeL hρ h1 h2 h3 h4
          exact q _ H l R' _ r'
        | dct _ _ => exact False.elim q
        | dead x => exact q w H (Wd.Le.refl w) R _ (R.cells n p _ hρ e)
  | _ => exact q w H (Wd.Le.refl w) R v r
theorem freezeT_ok {w : Wd} {st : Store} {H : Hp} {a : MP.W} {Q : Bool → Hp → Prop} {E : Wd → Hp → Store → Nat → MP.W → Prop} (R : RS X.K w st H) (q : Out X.K (freeze a st) w (fun _ H' _ r => ∃ b, r = .bl b ∧ Q b H') E) : ∃ b, a = .bl b ∧ Q b H := by
  cases a with
  | cell n =>
    dsimp only [freeze] at q
    cases e : st[n]? with
    | none => rw [e] at q; exact False.elim q
    | some d =>
      rw [e] at q
      obtain ⟨p, hρ⟩ := R.ltc e
      cases d with
      | lst ws =>
        obtain ⟨xs, h1, h2, h3, h4⟩ := R.cells n p _ hρ e
        obtain ⟨R', l, r'⟩ := R.freezeL hρ h1 h2 h3 h4
        obtain ⟨b, e, _⟩ := q _ H l R'
        cases e
      | dct _ _ => exact False.elim q
      | dead x =>
        obtain ⟨b, e2, _⟩ := q w H (Wd.Le.refl w) R
        subst e2
        have := R.cells n p _ hρ e
        cases this
  | _ => exact q w H (Wd.Le.refl w) R
theorem kt_ife {ec ea eb : E} {t x y : Expr} {pos : Pos} (hc : PT X t (TT1 Γ X.K W (evE (callN Γ.prog Γ.wf k) ec))) (ha : PT X x (TT1 Γ X.K W (evE (callN Γ.prog Γ.wf k) ea))) (hb : PT X y (TT1 Γ X.K W (evE (callN Γ.prog Γ.wf k) eb))) :
    PT X (.IfExp t x y pos) (TT1 Γ X.K W (evE (callN Γ.prog Γ.wf k) (.ife ec ea eb))) := by
  refine ⟨fun pins s σ H Q I h => ?_⟩
  obtain ⟨w, sl, st, R, S, q⟩ := h
  dsimp only [evE] at q
  show wpAny _ _ (isTrue t X.env (eval t X.env) >>= fun b => if b = true then isTrue x X.env (eval x X.env) else isTrue y X.env (eval y X.env)) _ _ s
  refine wpAny_bind (thn (hc.run pins s σ H (fun b H1 => ∀ s1, Inv X pins σ H1 s1 → wpAny (model X.prog X.w) X.A (if b = true then PySem.isTrue x X.env (eval x X.env) else PySem.isTrue y X.env (eval y X.env)) (TP X pins σ Q) X.xe s1) I (chainT R S q fun w1 H1 st1 a l1 R1 q => ?_)) fun b s1 ⟨H1, I1, z⟩ => z s1 I1)
  split at q
  · exact ⟨true, rfl, fun s1 I1 => by rw [if_pos rfl]; exact ha.run pins s1 σ H1 Q I1 ⟨w1, sl, st1, R1, S.le l1, q⟩⟩
  · exact ⟨false, rfl, fun s1 I1 => by rw [if_neg (by decide)]; exact hb.run pins s1 σ H1 Q I1 ⟨w1, sl, st1, R1, S.le l1, q⟩⟩
  · exact False.elim q
theorem k_chain {o1 o2 : Cmp} {ea eb ed : E} {x y z : Expr} {pos : Pos} (hx : XOk Γ k c X W) (hm : setB z = false) (ha : PE X x (TE1 Γ X.K W (evE (callN Γ.prog Γ.wf k) ea))) (hb : PE X y (TE1 Γ X.K W (evE (callN Γ.prog Γ.wf k) eb))) (hd : PE X z (TE1 Γ X.K W (evE (callN Γ.prog Γ.wf k) ed))) :
    PE X (.Compare x [cmpP o1, cmpP o2] [y, z] pos) (TE1 Γ X.K W (evE (callN Γ.prog Γ.wf k) (.chain o1 o2 ea eb ed))) := by
  refine PE_mono (pe_chain (opCmp o1 (RMU hx.room)) (opCmp o2 (RMU hx.room)) ha hb hd (marks hm)) ?_
  rintro σ H Q ⟨w, sl, st, R, S, q⟩
  dsimp only [evE] at q
  refine chain1 R S q fun w1 H1 st1 a v l1 R1 r1 q => ?_
  refine chain1 R1 (S.le l1) q fun w2 H2 st2 b u l2 R2 r2 q => ?_
  obtain ⟨t, e, q⟩ := (Out.bind q).opt
  have q := q w2 H2 (Wd.Le.refl _) R2
  refine ⟨w2, st2, a, b, fun _ _ _ _ _ => True, R2, r1.le l2, r2, ?_⟩
  show Out X.K (M.opt ((cmpW st2 o1 a b).map MP.W.bl) st2) w2 _ _
  rw [e]
  intro w3 H3 l3 R3 v' rv'
  cases rv'
  refine ⟨t, rfl, ?_⟩
  cases t with
  | true =>
    rw [if_pos rfl]
    refine ⟨w3, sl, st2, R3, ((S.le l1).le l2).le l3, ((Out.bind q).le l3).imp (fun w4 H4 st4 d l4 R4 q v4 r4 => ?_) fun _ _ _ _ _ _ _ q => q⟩
    exact ⟨w4, st4, b, d, _, R4, (r2.le l3).le l4, r4, q⟩
  | false => rw [if_neg (by decide)]; exact q w3 H3 l3 R3 _ (.bl _)
theorem kt_chain {o1 o2 : Cmp} {ea eb ed : E} {x y z : Expr} {pos : Pos} (hx : XOk Γ k c X W) (hm : setB z = false) (ha : PE X x (TE1 Γ X.K W (evE (callN Γ.prog Γ.wf k) ea))) (hb : PE X y (TE1 Γ X.K W (evE (callN Γ.prog Γ.wf k) eb))) (hd : PE X z (TE1 Γ X.K W (evE (callN Γ.prog Γ.wf k) ed))) :
    PT X (.Compare x [cmpP o1, cmpP o2] [y, z] pos) (TT1 Γ X.K W (evE (callN Γ.prog Γ.wf k) (.chain o1 o2 ea eb ed))) := by
  refine PT_mono (pt_chain (opCmp o1 (RMU hx.room)) (opCmp o2 (RMU hx.room)) ha hb hd (marks hm)) ?_
  rintro σ H Q ⟨w, sl, st, R, S, q⟩
  dsimp only [evE] at q
  refine chain1 R S q fun w1 H1 st1 a v l1 R1 r1 q => ?_
  refine chain1 R1 (S.le l1) q fun w2 H2 st2 b u l2 R2 r2 q => ?_
  obtain ⟨t, e, q⟩ := (Out.bind q).opt
  have q := q w2 H2 (Wd.Le.refl _) R2
  refine ⟨w2, st2, a, b, fun _ _ _ _ _ => True, R2, r1.le l2, r2, ?_⟩
  show Out X.K (M.opt ((cmpW st2 o1 a b).map MP.W.bl) st2) w2 _ _
  rw [e]
  intro w3 H3 l3 R3 v' rv'
  cases rv'
  refine ⟨t, rfl, ?_⟩
  cases t with
  | true =>
    rw [if_pos rfl]
    refine ⟨w3, sl, st2, R3, ((S.le l1).le l2).le l3, ((Out.bind q).le l3).imp (fun w4 H4 st4 d l4 R4 q v4 r4 => ?_) fun _ _ _ _ _ _ _ q => q⟩
    refine ⟨w4, st4, b, d, EX Γ X.K W σ, R4, (r2.le l3).le l4, r4, ?_⟩
    refine Out.imp q (fun w5 H5 st5 r5 l5 R5 q v5 rv5 => ?_) fun w5 H5 st5 cc x l5 R5 q => q
    obtain ⟨b5, rfl, q⟩ := q
    cases rv5
    exact ⟨b5, rfl, q⟩
  | false =>
    rw [if_neg (by decide)]
    obtain ⟨b5, e5, q⟩ := q w3 H3 l3 R3
    cases e5
    exact ⟨false, rfl, q⟩
/-- a test that is no comparison, not, and, or, if: by its value -/
def plainT : Expr → Bool
  | .UnaryOp .Not _ _ => false
  | .BoolOp _ _ _ => false
  | .IfExp _ _ _ _ => false
  | .Compare _ _ _ _ => false
  | _ => true
theorem plainT_ok {e : Expr} {env : Env} (h : plainT e = true) : ∀ whole, isTrue e env whole = (do let v ← whole; standAt e.pos; holding [v] (truthy v)) := by
  intro whole
  cases e <;> first | rfl | (cases h; done) | skip
  rename_i op x pos
  cases op <;> first | rfl | cases h
theorem kc_none : PTs X [] (TB1 Γ X.K W (evC (callN Γ.prog Γ.wf k) .none)) := by
  refine ⟨fun pins s σ H Q I h => pts_nil.run pins s σ H Q I ?_⟩
  obtain ⟨w, sl, st, R, S, q⟩ := h
  exact q w H (Wd.Le.refl w) R
theorem kc_some {m : E} {e : Expr} (h : PT X e (TT1 Γ X.K W (evE (callN Γ.prog Γ.wf k) m))) : PTs X [e] (TB1 Γ X.K W (evC (callN Γ.prog Γ.wf k) (.some m))) := by
  refine ⟨fun pins s σ H Q I h' => (pts_one h).run pins s σ H Q I ?_⟩
  obtain ⟨w, sl, st, R, S, q⟩ := h'
  dsimp only [evC] at q
  refine chainT R S q fun w1 H1 st1 a l1 R1 q => ?_
  obtain ⟨b, e, q⟩ := q.opt
  cases a <;> first | (cases e; done) | skip
  cases e
  exact ⟨_, rfl, q w1 H1 (Wd.Le.refl _) R1⟩
theorem ownOf_map {N : List Str} {own : List Nat} : (ownOf N own).map (·.2) = own := by unfold ownOf; rw [List.map_map]; exact List.map_id' own
/-! ### all of them -/
theorem not_inv {a : Bool} (h : (!a) = true) : a = false := by cases a <;> simp_all
theorem and_inv {a b : Bool} (h : (a && b) = true) : a = true ∧ b = true := by cases a <;> cases b <;> simp_all
theorem pe_noval {e : Expr} {m : E} (h : ∀ sl, evE (callN Γ.prog Γ.wf k) m sl = M.fail) : PE X e (TE1 Γ X.K W (evE (callN Γ.prog Γ.wf k) m)) ∧ PT X e (TT1 Γ X.K W (evE (callN Γ.prog Γ.wf k) m)) := by
  refine ⟨PE_false ?_, PT_false ?_⟩ <;> (rintro σ H Q ⟨w, sl, st, R, S, q⟩; rw [h] at q; exact q)
theorem both {e : Expr} {m : Slots → M MP.W} (hp : plainT e = true) (h : PE X e (TE1 Γ X.K W m)) : PE X e (TE1 Γ X.K W m) ∧ PT X e (TT1 Γ X.K W m) := ⟨h, pt_of h (plainT_ok hp)⟩
theorem pw_of {e : Expr} {t : TT} (h : PT X e t) (hw : ∀ w1 w2, isTrue e X.env w1 = isTrue e X.env w2) : PW X e t := ⟨fun whole pins s σ H Q I q => by rw [hw whole (eval e X.env)]; exact h.run pins s σ H Q I q⟩
theorem boolOp_whole {op : BoolOp} {es : List Expr} {pos : Pos} {env : Env} (w1 w2 : Sem Value) : isTrue (.BoolOp op es pos) env w1 = isTrue (.BoolOp op es pos) env w2 := rfl
end
section
variable {Γ : Gl0} {k : Nat}
/-! ### list(range(..)) -/
section
variable {Γ : Gl0} {k : Nat} {c : SC} {X : Cx} {W : WX}
theorem rg_reps {w : Wd} {a b : Int} : Reps X.K w (rgV a b) (rgW a (b - a).toNat) := by
  unfold rgV rgW
  generalize List.range (b - a).toNat = l
  induction l with
  | nil => exact .nil
  | cons i l ih => exact .cons (.int _) ih
theorem k_lrange1 {b : Bool} {ea : E} {f g : Str} {x : Expr} {p1 p2 p3 pos : Pos} (hx : XOk Γ k c X W) (hf : f = ("list" : Str)) (hgf : glB c.sc f = true) (hg : g = ("range" : Str)) (hgg : glB c.sc g = true) (hs : starB x = false)
    (ha : PE X x (TE1 Γ X.K W (evE (callN Γ.prog Γ.wf k) ea))) : PE X (.Call (.Name f p1) [.Call (.Name g p2) [x] [] p3] [] pos) (TE1 Γ X.K W (evE (callN Γ.prog Γ.wf k) (.lrange1 b ea))) := by
  subst hf hg
  refine PE_mono (pe_listRg hx.calm (gl_ok hx hgf) (bi_ok hx (by decide +kernel)) (prg_1 (gl_ok hx hgg) (bi_ok hx (by decide +kernel)) ha (star_ok hs)) (star_ok rfl)) ?_
  rintro σ H Q ⟨w, sl, st, R, S, q⟩
  dsimp only [evE] at q
  refine chain1 R S q fun w1 H1 st1 a v l1 R1 r1 q => ?_
  split at q
  case h_2 => exact False.elim q
  next j =>
  split at q
  case isFalse => exact False.elim q
  next hb =>
  simp only [Bool.and_eq_true, decide_eq_true_eq] at hb
  cases r1
  have hl : LIM = 1000000 := rfl
  refine ⟨j, rfl, ⟨by omega, by omega, by omega, by omega, by omega⟩, fun p hp => ?_⟩
  rw [fin_mk] at q
  have hz : (rgV 0 j).length ≤ sizeLine := by rw [rgV_length]; exact lim_le (by omega)
  have rr : Reps X.K w1 (rgV 0 j) (rgW 0 j.toNat) := by
    have := rg_reps (X := X) (w := w1) (a := 0) (b := j)
    rw [show j - 0 = j by omega] at this; exact this
  exact q.laid R1 hp hz rr
theorem k_lrange2 {b : Bool} {ea eb : E} {f g : Str} {x y : Expr} {p1 p2 p3 pos : Pos} (hx : XOk Γ k c X W) (hf : f = ("list" : Str)) (hgf : glB c.sc f = true) (hg : g = ("range" : Str)) (hgg : glB c.sc g = true) (hs : starB x = false) (hs2 : starB y = false)
    (ha : PE X x (TE1 Γ X.K W (evE (callN Γ.prog Γ.wf k) ea))) (hb : PE X y (TE1 Γ X.K W (evE (callN Γ.prog Γ.wf k) eb))) : PE X (.Call (.Name f p1) [.Call (.Name g p2) [x, y] [] p3] [] pos) (TE1 Γ X.K W (evE (callN Γ.prog Γ.wf k) (.lrange2 b ea eb))) := by
  subst hf hg
  refine PE_mono (pe_listRg hx.calm (gl_ok hx hgf) (bi_ok hx (by decide +kernel)) (prg_2 (gl_ok hx hgg) (bi_ok hx (by decide +kernel)) ha hb (star_ok hs) (star_ok hs2) (by rw [star_ok hs2]; rfl)) (star_ok rfl)) ?_
  rintro σ H Q ⟨w, sl, st, R, S, q⟩
  dsimp only [evE] at q
  refine chain1 R S q fun w1 H1 st1 a v l1 R1 r1 q => ?_
  refine chain1 R1 (S.le l1) q fun w2 H2 st2 a2 v2 l2 R2 r2 q => ?_
  split at q
  case h_2 => exact False.elim q
  next i j _ =>
  split at q
  case isFalse => exact False.elim q
  next hb =>
  simp only [Bool.and_eq_true, decide_eq_true_eq] at hb
  cases r1; cases r2
  have hl : LIM = 1000000 := rfl
  refine ⟨i, j, rfl, rfl, ⟨by omega, by omega, by omega, by omega, by omega⟩, fun p hp => ?_⟩
  rw [fin_mk] at q
  have hz : (rgV i j).length ≤ sizeLine := by rw [rgV_length]; exact lim_le (by omega)
  exact q.laid R2 hp hz rg_reps
end
/-! ### calls with keywords -/
section
variable {Γ : Gl0} {k : Nat} {c : SC} {X : Cx} {W : WX}
theorem PK_mono {kws : List Keyword} {t t' : TA} (h : PK X kws t) (hh : ∀ σ H Q, t' σ H Q → t σ H Q) : PK X kws t' := ⟨fun pos pins s σ H Q I q => h.run pos pins s σ H Q I (hh σ H Q q)⟩
theorem kk_nil : PK X [] (TA1 Γ X.K W (evEs (callN Γ.prog Γ.wf k) .nil)) := by
  refine PK_mono pk_nil ?_
  rintro σ H Q ⟨w, sl, st, R, S, q⟩
  exact q w H (Wd.Le.refl w) R [] .nil
theorem kk_cons {m : E} {ms : Es} {q0 : Keyword} {es : List Keyword} (ha : PE X q0.value (TE1 Γ X.K W (evE (callN Γ.prog Γ.wf k) m))) (hr : PK X es (TA1 Γ X.K W (evEs (callN Γ.prog Γ.wf k) ms))) :
    PK X (q0 :: es) (TA1 Γ X.K W (evEs (callN Γ.prog Γ.wf k) (.cons m ms))) := by
  obtain ⟨nm, v, kp⟩ := q0
  refine PK_mono (pk_cons ha hr) ?_
  rintro σ H Q ⟨w, sl, st, R, S, q⟩
  dsimp only [evEs] at q
  refine chain1 R S q fun w1 H1 st1 a v l1 R1 r1 q => ?_
  exact ⟨w1, sl, st1, R1, S.le l1, (Out.bind q).imp (fun w' H' st' as l R' q vs r => q w' H' (Wd.Le.refl _) R' _ (.cons (r1.le l) r)) fun _ _ _ _ _ _ _ q => q⟩
theorem kw_all {pos : Pos} {env : Env} : ∀ {kws : List Keyword}, kws.all (fun q => q.arg.isSome) = true → (backToKw pos (keywordEach kws env)).all (·.1.isSome) = true ∧ (backToKw pos (keywordEach kws env)).any (·.1.isNone) = false
  | [], _ => ⟨rfl, rfl⟩
  | ⟨nm, v, p⟩ :: r, h => by
    simp only [List.all_cons, Bool.and_eq_true] at h
    obtain ⟨h1, h2⟩ := kw_all (pos := pos) (env := env) h.2
    cases nm with
    | none => exact absurd h.1 (by simp)
    | some nm => exact ⟨h1, h2⟩
theorem kw_names {pos : Pos} {env : Env} : ∀ {kws : List Keyword}, (backToKw pos (keywordEach kws env)).filterMap (·.1) = kws.filterMap (fun q => q.arg)
  | [] => rfl
  | ⟨none, v, p⟩ :: r => kw_names (kws := r)
  | ⟨some nm, v, p⟩ :: r => congrArg (nm :: ·) (kw_names (kws := r))
theorem kw_len : ∀ {kws : List Keyword}, kws.all (fun q => q.arg.isSome) = true → (kws.filterMap (fun q => q.arg)).length = kws.length
  | [], _ => rfl
  | ⟨none, v, p⟩ :: r, h => by simp at h
  | ⟨some nm, v, p⟩ :: r, h => by
    simp only [List.all_cons, Bool.and_eq_true] at h
    have := kw_len h.2
    simp [this]
theorem ta_len {es : Es} {args : List Expr} {σ : L2.St} {H : Hp} {Q : List V → Hp → Prop} (hm : mtEs Γ.T c es args = true) (hs : args.any starB = false) (h : TA1 Γ X.K W (evEs (callN Γ.prog Γ.wf k) es) σ H Q) : TA1 Γ X.K W (evEs (callN Γ.prog Γ.wf k) es) σ H fun vs H1 => vs.length = args.length ∧ Q vs H1 := by
  obtain ⟨w, sl, st, R, S, q⟩ := h
  refine ⟨w, sl, st, R, S, ?_⟩
  cases ee : evEs (callN Γ.prog Γ.wf k) es sl st with
  | err => rw [ee] at q; exact False.elim q
  | exc _ _ _ => rw [ee] at q; exact q
  | ok ws st' =>
    rw [ee] at q
    exact fun w' H' l R' vs r => ⟨by rw [r.length]; exact len_Es hm hs ee, q w' H' l R' vs r⟩
theorem allOpt_hd {α : Type} {xs : List α} {i : Nat} {perm : List Nat} {r : List α} (h : allOpt (fun i => xs[i]?) (i :: perm) = some r) : ∃ x r', xs[i]? = some x ∧ allOpt (fun i => xs[i]?) perm = some r' ∧ r = x :: r' := by
  simp only [allOpt] at h
  cases e : xs[i]? with
  | none => rw [e] at h; cases h
  | some b =>
    rw [e] at h
    cases e2 : allOpt (fun i => xs[i]?) perm with
    | none => rw [e2] at h; cases h
    | some bs => rw [e2] at h; cases h; exact ⟨b, bs, rfl, rfl, rfl⟩
theorem perm_all {w : Wd} {xs : List V} {us : List Value} {ws : List MP.W} (rv : Vals xs us) (rr : Reps X.K w xs ws) : ∀ {perm : List Nat} {us' : List Value} {ws' : List MP.W}, allOpt (fun i => us[i]?) perm = some us' → allOpt (fun i => ws[i]?) perm = some ws' → ∃ xs', Vals xs' us' ∧ Reps X.K w xs' ws'
  | [], us', ws', h1, h2 => by simp [allOpt] at h1 h2; subst h1 h2; exact ⟨[], .nil, .nil⟩
  | i :: perm, us', ws', h1, h2 => by
    obtain ⟨u, us'', e1, e2, rfl⟩ := allOpt_hd h1
    obtain ⟨y, ws'', e3, e4, rfl⟩ := allOpt_hd h2
    obtain ⟨xs', a1, a2⟩ := perm_all rv rr e2 e4
    obtain ⟨v, e5, r1⟩ := rr.get e3
    obtain ⟨u', e6, r2⟩ := rv.get e5
    rw [e1] at e6; cases e6
    exact ⟨v :: xs', .cons r2 a1, .cons r1 a2⟩
theorem vals_app {xs ys : List V} {us vs : List Value} (h : Vals xs us) (h' : Vals ys vs) : Vals (xs ++ ys) (us ++ vs) := by
  induction xs generalizing us with
  | nil => cases h; exact h'
  | cons x xs ih => cases h with | cons r rr => exact .cons r (ih rr)
theorem k_callK {d : Fn} {es kes : Es} {ks : List Nat} {x : Str} {args : List Expr} {kw : Keyword} {kws : List Keyword} {p pos : Pos} (hx : XOk Γ k c X W) (hf : find Γ.prog d.id = some d) (hn : x = d.name) (hg : glB c.sc x = true) (hdb : (x == ("__debug__" : Str)) = false) (hs : args.any starB = false)
    (hm : mtEs Γ.T c es args = true) (hmk : mtEs Γ.T c kes ((kw :: kws).map Keyword.value) = true) (hall : (kw :: kws).all (fun q => q.arg.isSome) = true) (hkb : (d.id, args.length, (kw :: kws).filterMap (fun q => q.arg), ks) ∈ Γ.T.kb)
    (ha : PA X args (TA1 Γ X.K W (evEs (callN Γ.prog Γ.wf k) es))) (hkw : PK X (kw :: kws) (TA1 Γ X.K W (evEs (callN Γ.prog Γ.wf k) kes))) (hks : ((kw :: kws).map Keyword.value).any starB = false) :
    PE X (.Call (.Name x p) args (kw :: kws) pos) (TE1 Γ X.K W (evE (callN Γ.prog Γ.wf k) (.callK d.id es kes ks))) := by
  obtain ⟨hd, _⟩ := find_mem hf
  have hmg : X.mg x = some (.ref (Γ.fa d.id)) := by rw [hn]; exact (hx.gok.at_ d hd).1
  have hk := (hx.gok.at_ d hd).2
  obtain ⟨a1, a2⟩ := kw_all (pos := pos) (env := X.env) hall
  refine ⟨fun pins s σ H Q I h => ?_⟩
  refine wpAny_Call_Name_kw (ld_glob I (gl_ok hx hg) hmg ?_ hdb)
  -- the arguments, the keywords, the call
  have h1 : TA1 Γ X.K W (evEs (callN Γ.prog Γ.wf k) es) σ H fun xs H1 => TA1 Γ X.K W (evEs (callN Γ.prog Γ.wf k) kes) σ H1 fun ys H2 => ∃ w st ws vs, RS X.K w st H2 ∧ Reps X.K w (xs ++ ys) ws ∧ allOpt (fun i => ws[i]?) ks = some vs ∧ Out X.K (callN Γ.prog Γ.wf k d.id vs st) w (RV (K := X.K) Q) (EX Γ X.K W σ) := by
    obtain ⟨w, sl, st, R, S, q⟩ := h
    dsimp only [evE] at q
    refine ⟨w, sl, st, R, S, (Out.bind q).imp (fun w1 H1 st1 ws l1 R1 q xs r => ?_) fun _ _ _ _ _ _ _ q => q⟩
    refine ⟨w1, sl, st1, R1, S.le l1, (Out.bind q).imp (fun w2 H2 st2 zs l2 R2 q ys r2 => ?_) fun _ _ _ _ _ _ _ q => q⟩
    obtain ⟨vs, e1, q⟩ := (Out.bind q).opt
    exact ⟨w2, st2, ws ++ zs, vs, R2, (r.le l2).append r2, e1, q w2 H2 (Wd.Le.refl _) R2⟩
  have fin : ∀ {us uz : List Value} {s2 : Shared} {xs ys : List V} {H2 : Hp}, Inv X pins σ H2 s2 → Vals xs us → Vals ys uz → xs.length = args.length → ys.length = (kw :: kws).length →
      (∃ w st ws vs, RS X.K w st H2 ∧ Reps X.K w (xs ++ ys) ws ∧ allOpt (fun i => ws[i]?) ks = some vs ∧ Out X.K (callN Γ.prog Γ.wf k d.id vs st) w (RV (K := X.K) Q) (EX Γ X.K W σ)) →
      wpAny (model X.prog X.w) X.A (call (.ref (Γ.fa d.id)) us (((kw :: kws).filterMap (fun q => q.arg)).zip uz)) (EP X pins σ Q) X.xe s2 := by
    rintro us uz s2 xs ys H2 I2 r rz l1 l2 ⟨w, st, ws, vs, R2, rr, e1, q⟩
    have n1 : us.length = args.length := by rw [← r.length]; exact l1
    have n2 : uz.length = ((kw :: kws).filterMap (fun q => q.arg)).length := by rw [kw_len hall, ← rz.length]; exact l2
    obtain ⟨us', e2, hb⟩ := hx.gok.kbind _ hkb d hf s2 us uz n1 n2
    obtain ⟨xs', v1, v2⟩ := perm_all (vals_app r rz) rr e2 e1
    obtain ⟨d', e', hl⟩ := callN_find q
    rw [hf] at e'; cases e'
    exact wpAny_call (run_G hx hd I2 v1 (by rw [← v1.length, v2.length]; exact hl) hb ⟨w, st, vs, R2, v2, q⟩)
  cases args with
  | nil =>
    refine PySem.W.callWith_KW0 (h₀ := X.base) I.ok.mod.kin hk a1 ?_ (by show (false || _) = false; rw [a2]; rfl)
    have hes : es = .nil := by cases es <;> first | rfl | (simp only [mtEs] at hm; cases hm)
    subst hes
    have h2 := (pa_nil (X := X)).run pos pins s σ H
    obtain ⟨w, sl, st, R, S, q⟩ := h1
    have q := q w H (Wd.Le.refl w) R [] .nil
    refine thn (hkw.run pos pins s σ H _ I (ta_len hmk hks q)) fun uz s2 ⟨ys, H2, I2, rz, l2, q2⟩ => ⟨I2.kIn, ?_⟩
    rw [kw_names]
    exact fin I2 .nil rz rfl (by simpa using l2) q2
  | cons e rest =>
    have hs' := hs
    simp only [List.any_cons, Bool.or_eq_false_iff] at hs'
    refine PySem.W.callWith_KW (h₀ := X.base) I.ok.mod.kin hk a1 (thn (ha.run pos pins s σ H _ I (ta_len hm hs h1)) fun us s1 ⟨xs, H1, I1, r, l1, q1⟩ => ?_) (by rw [plain_ok hs, a2]; rfl) (star_ok hs'.1)
    refine thn (hkw.run pos pins s1 σ H1 _ I1 (ta_len hmk hks q1)) fun uz s2 ⟨ys, H2, I2, rz, l2, q2⟩ => ⟨I2.kIn, ?_⟩
    rw [kw_names]
    exact fin I2 r rz l1 (by simpa using l2) q2
end
mutual
theorem e_ok : ∀ (m : E) {c : SC} {X : Cx} {W : WX} {e : Expr}, XOk Γ k c X W → mtE Γ.T c m e = true → PE X e (TE1 Γ X.K W (evE (callN Γ.prog Γ.wf k) m)) ∧ PT X e (TT1 Γ X.K W (evE (callN Γ.prog Γ.wf k) m))
  | .var i, c, X, W, e, hx, h => by
    simp only [mtE] at h
    split at h
    · next x p =>
      obtain ⟨h, h4⟩ := and_inv h
      obtain ⟨h, h3⟩ := and_inv h
      obtain ⟨h1, h2⟩ := and_inv h
      exact both rfl (k_var hx (of_decide_eq_true h1) h2 (by simpa using h3) (by simpa using h4))
    · cases h
  | .non, c, X, W, e, hx, h => by
    simp only [mtE] at h
    split at h
    · exact both rfl (k_const pe_non (fun _ => rfl) fun _ => .non)
    · cases h
  | .bl b, c, X, W, e, hx, h => by
    simp only [mtE] at h
    split at h
    · next b' _ _ => 
      have : b = b' := by simpa using h
      subst this
      exact both rfl (k_const pe_bl (fun _ => rfl) fun _ => .bl b)
    · cases h
  | .int n, c, X, W, e, hx, h => by
    simp only [mtE] at h
    split at h
    · next n' _ _ =>
      have : n = n' := by simpa using h
      subst this
      exact both rfl (k_const pe_int (fun _ => rfl) fun _ => .int n)
    · cases h
  | .str x, c, X, W, e, hx, h => by
    simp only [mtE] at h
    split at h
    · next n' _ _ =>
      have : x = n' := by simpa using h
      subst this
      exact both rfl (k_const pe_str (fun _ => rfl) fun _ => .str x)
    · cases h
  | .lst b es, c, X, W, e, hx, h => by
    simp only [mtE] at h
    split at h
    · exact both rfl (k_lst (es_ok es hx h))
    · cases h
  | .tup es, c, X, W, e, hx, h => by
    simp only [mtE] at h
    split at h
    · exact both rfl (k_tup (es_ok es hx h))
    · cases h
  | .dct _ _ _, c, X, W, e, hx, h => by simp only [mtE] at h; cases h
  | .bin b op ea eb, c, X, W, e, hx, h => by
    simp only [mtE] at h
    split at h
    · obtain ⟨h, h3⟩ := and_inv h
      obtain ⟨h1, h2⟩ := and_inv h
      rw [opB_ok h1]
      exact both rfl (k_bin (e_ok ea hx h2).1 (e_ok eb hx h3).1)
    · cases h
  | .neg a, c, X, W, e, hx, h => by
    simp only [mtE] at h
    split at h
    · exact both rfl (k_neg (e_ok a hx h).1)
    · cases h
  | .not a, c, X, W, e, hx, h => by
    simp only [mtE] at h
    split at h
    · exact ⟨k_not (e_ok a hx h).1, kt_not (e_ok a hx h).2⟩
    · cases h
  | .and a b, c, X, W, e, hx, h => by
    simp only [mtE] at h
    split at h
    · obtain ⟨h1, h2⟩ := and_inv h
      exact ⟨k_and (e_ok a hx h1).1 (pe_one (e_ok b hx h2).1), (kt_and (e_ok a hx h1).2 (pw_and1 (e_ok b hx h2).2)).pt⟩
    · obtain ⟨h1, h2⟩ := and_inv h
      exact ⟨k_and (e_ok a hx h1).1 (e_ok b hx h2).1, (kt_and (e_ok a hx h1).2 (pw_of (e_ok b hx h2).2 fun _ _ => rfl)).pt⟩
    · cases h
  | .or a b, c, X, W, e, hx, h => by
    simp only [mtE] at h
    split at h
    · obtain ⟨h1, h2⟩ := and_inv h
      exact ⟨k_or (e_ok a hx h1).1 (pe_one (e_ok b hx h2).1), (kt_or (e_ok a hx h1).2 (pw_or1 (e_ok b hx h2).2)).pt⟩
    · obtain ⟨h1, h2⟩ := and_inv h
      exact ⟨k_or (e_ok a hx h1).1 (e_ok b hx h2).1, (kt_or (e_ok a hx h1).2 (pw_of (e_ok b hx h2).2 fun _ _ => rfl)).pt⟩
    · cases h
  | .cmp op a b, c, X, W, e, hx, h => by
    simp only [mtE] at h
    split at h
    · obtain ⟨h, h4⟩ := and_inv h
      obtain ⟨h, h3⟩ := and_inv h
      obtain ⟨h1, h2⟩ := and_inv h
      rw [cmpB_ok h1]
      have h4 := not_inv h4
      exact ⟨k_cmp hx h4 (e_ok a hx h2).1 (e_ok b hx h3).1, kt_cmp hx h4 (e_ok a hx h2).1 (e_ok b hx h3).1⟩
    · cases h
  | .chain o1 o2 a b d, c, X, W, e, hx, h => by
    simp only [mtE] at h
    split at h
    · obtain ⟨h, h6⟩ := and_inv h
      obtain ⟨h, h5⟩ := and_inv h
      obtain ⟨h, h4⟩ := and_inv h
      obtain ⟨h, h3⟩ := and_inv h
      obtain ⟨h1, h2⟩ := and_inv h
      rw [cmpB_ok h1, cmpB_ok h2]
      have h6 := not_inv h6
      exact ⟨k_chain hx h6 (e_ok a hx h3).1 (e_ok b hx h4).1 (e_ok d hx h5).1, kt_chain hx h6 (e_ok a hx h3).1 (e_ok b hx h4).1 (e_ok d hx h5).1⟩
    · cases h
  | .ife d a b, c, X, W, e, hx, h => by
    simp only [mtE] at h
    split at h
    · obtain ⟨h, h3⟩ := and_inv h
      obtain ⟨h1, h2⟩ := and_inv h
      exact ⟨k_ife (e_ok d hx h1).2 (e_ok a hx h2).1 (e_ok b hx h3).1, kt_ife (e_ok d hx h1).2 (e_ok a hx h2).2 (e_ok b hx h3).2⟩
    · cases h
  | .isi t a, c, X, W, e, hx, h => by
    simp only [mtE] at h
    split at h
    · obtain ⟨h, h6⟩ := and_inv h
      obtain ⟨h, h5⟩ := and_inv h
      obtain ⟨h, h4⟩ := and_inv h
      obtain ⟨h, h3⟩ := and_inv h
      obtain ⟨h1, h2⟩ := and_inv h
      exact both rfl (k_isi hx (of_decide_eq_true h1) h2 (of_decide_eq_true h3) h4 (by simpa using h6) (e_ok a hx h5).1)
    · cases h
  | .isiT ts a, c, X, W, e, hx, h => by
    simp only [mtE] at h
    split at h
    · obtain ⟨h, h7⟩ := and_inv h
      obtain ⟨h, h6⟩ := and_inv h
      obtain ⟨h, h5⟩ := and_inv h
      obtain ⟨h, h4⟩ := and_inv h
      obtain ⟨h, h3⟩ := and_inv h
      obtain ⟨h1, h2⟩ := and_inv h
      exact both rfl (k_isiT hx (of_decide_eq_true h1) h2 (of_decide_eq_true h3) (by intro z; subst z; cases h4) h5 (by simpa using h7) (e_ok a hx h6).1)
    · cases h
  | .call f es ks, c, X, W, e, hx, h => by
    simp only [mtE] at h
    split at h
    · next x p args kws pos =>
      obtain ⟨h, h7⟩ := and_inv h
      obtain ⟨h, h6⟩ := and_inv h
      obtain ⟨h, h5⟩ := and_inv h
      obtain ⟨h, h4⟩ := and_inv h
      obtain ⟨h, h3⟩ := and_inv h
      obtain ⟨h1, h2⟩ := and_inv h
      split at h1
      · next d hd =>
        have hid := (find_mem hd).2
        subst hid
        have hk : ks = [] := by simpa using h7
        have hkw : kws = [] := by simpa using h6
        subst hk hkw
        have h5 : args.any starB = false := by simpa using h5
        cases args with
        | nil =>
          cases es with
          | nil => exact both rfl (k_call0 hx hd (of_decide_eq_true h1) h2 (by simpa using h3))
          | cons _ _ => simp only [mtEs] at h4; cases h4
          | star _ _ => simp only [mtEs] at h4; cases h4
        | cons a r => exact both rfl (k_call hx hd (of_decide_eq_true h1) h2 (by simpa using h3) h5 (es_ok es hx h4))
      · cases h1
    · cases h
  | .callK f es kes ks, c, X, W, e, hx, h => by
    simp only [mtE] at h
    split at h
    · next x p args kw kws pos =>
      obtain ⟨h, h8⟩ := and_inv h
      obtain ⟨h, h7⟩ := and_inv h
      obtain ⟨h, h9⟩ := and_inv h
      obtain ⟨h, h6⟩ := and_inv h
      obtain ⟨h, h5⟩ := and_inv h
      obtain ⟨h, h4⟩ := and_inv h
      obtain ⟨h, h3⟩ := and_inv h
      obtain ⟨h1, h2⟩ := and_inv h
      have h9 : ((kw :: kws).map Keyword.value).any starB = false := by simpa using h9
      split at h1
      · next d hd =>
        have hid := (find_mem hd).2
        subst hid
        exact both rfl (k_callK hx hd (of_decide_eq_true h1) h2 (by simpa using h3) (by simpa using h5) h4 h6 h7 (by simpa using h8) (es_ok es hx h4) (kw_ok kes hx h6 h9) h9)
      · cases h1
    · cases h
  | .bi b p es, c, X, W, e, hx, h => by
    simp only [mtE] at h
    split at h
    · obtain ⟨h, h4⟩ := and_inv h
      obtain ⟨h, h3⟩ := and_inv h
      obtain ⟨h1, h2⟩ := and_inv h
      exact both rfl (k_bi hx (of_decide_eq_true h1) h2 (by simpa using h4) (es_ok es hx h3))
    · cases h
  | .mt m o es, c, X, W, e, hx, h => by
    simp only [mtE] at h
    split at h
    · next x name apos args cpos =>
      obtain ⟨h, h8⟩ := and_inv h
      obtain ⟨h, h7⟩ := and_inv h
      obtain ⟨h, h6⟩ := and_inv h
      obtain ⟨h, h5⟩ := and_inv h
      obtain ⟨h, h4⟩ := and_inv h
      obtain ⟨h, h3⟩ := and_inv h
      obtain ⟨h1, h2⟩ := and_inv h
      refine both rfl (k_mt h1 (of_decide_eq_true h2) h3 h4 (of_decide_eq_true h5) (by simpa using h8) (e_ok o hx h6).1 (fun z => ?_) (es_ok es hx h7))
      subst z
      cases es with
      | nil => rfl
      | cons _ _ => simp only [mtEs] at h7; cases h7
      | star _ _ => simp only [mtEs] at h7; cases h7
    · cases h
  | .sub a i, c, X, W, e, hx, h => by
    simp only [mtE] at h
    split at h
    · obtain ⟨h, h3⟩ := and_inv h
      obtain ⟨h1, h2⟩ := and_inv h
      exact both rfl (k_sub hx (by simpa using h3) (e_ok a hx h1).1 (e_ok i hx h2).1)
    · cases h
  | .slice b a lo hi, c, X, W, e, hx, h => by
    simp only [mtE] at h
    split at h
    · obtain ⟨h, h3⟩ := and_inv h
      obtain ⟨h1, h2⟩ := and_inv h
      exact both rfl (k_slice (e_ok a hx h1).1 (o_ok lo hx h2) (o_ok hi hx h3))
    · cases h
  | .lrange1 b a, c, X, W, e, hx, h => by
    simp only [mtE] at h
    split at h
    · obtain ⟨h, h6⟩ := and_inv h
      obtain ⟨h, h5⟩ := and_inv h
      obtain ⟨h, h4⟩ := and_inv h
      obtain ⟨h, h3⟩ := and_inv h
      obtain ⟨h1, h2⟩ := and_inv h
      exact both rfl (k_lrange1 hx (of_decide_eq_true h1) h2 (of_decide_eq_true h3) h4 (by simpa using h6) (e_ok a hx h5).1)
    · cases h
  | .lrange2 b a a2, c, X, W, e, hx, h => by
    simp only [mtE] at h
    split at h
    · obtain ⟨h, h8⟩ := and_inv h
      obtain ⟨h, h7⟩ := and_inv h
      obtain ⟨h, h6⟩ := and_inv h
      obtain ⟨h, h5⟩ := and_inv h
      obtain ⟨h, h4⟩ := and_inv h
      obtain ⟨h, h3⟩ := and_inv h
      obtain ⟨h1, h2⟩ := and_inv h
      exact both rfl (k_lrange2 hx (of_decide_eq_true h1) h2 (of_decide_eq_true h3) h4 (by simpa using h7) (by simpa using h8) (e_ok a hx h5).1 (e_ok a2 hx h6).1)
    · cases h
  | .lc b own t it cond elt, c, X, W, e, hx, h => by
    simp only [mtE] at h
    split at h
    · next el tg iter ifs scope pos =>
      obtain ⟨h, h7⟩ := and_inv h
      obtain ⟨h, h6⟩ := and_inv h
      obtain ⟨h, h5⟩ := and_inv h
      obtain ⟨h, h4⟩ := and_inv h
      obtain ⟨h, h3⟩ := and_inv h
      obtain ⟨h1, h2⟩ := and_inv h
      refine both rfl (k_lc hx (by simpa using h2) ownOf_map (fun i hi => by simpa using List.all_eq_true.mp h3 i hi) (it_ok it hx h1) h4 (fun s H C cl fp => t_ok t (blk_ok hx) h5) (fun s H C cl fp => c_ok cond (blk_ok hx) h6) (fun s H C cl fp => (e_ok elt (blk_ok hx) h7).1))
    · cases h
  | .dc _ _ _ _ _ _ _, c, X, W, e, hx, h => by simp only [mtE] at h; cases h
  | .fz a, c, X, W, e, hx, h => by
    simp only [mtE] at h
    obtain ⟨h1, h2⟩ := e_ok a hx h
    refine ⟨PE_mono h1 ?_, PT_mono h2 ?_⟩
    · rintro σ H Q ⟨w, sl, st, R, S, q⟩
      dsimp only [evE] at q
      exact chain1 R S q fun w1 H1 st1 a v l1 R1 r1 q => freeze_ok R1 r1 q
    · rintro σ H Q ⟨w, sl, st, R, S, q⟩
      dsimp only [evE] at q
      exact ⟨w, sl, st, R, S, (Out.bind q).imp (fun w1 H1 st1 a l1 R1 q => freezeT_ok R1 q) fun _ _ _ _ _ _ _ q => q⟩
  | .never, c, X, W, e, hx, h => pe_noval fun _ => rfl
theorem es_ok : ∀ (m : Es) {c : SC} {X : Cx} {W : WX} {es : List Expr}, XOk Γ k c X W → mtEs Γ.T c m es = true → PA X es (TA1 Γ X.K W (evEs (callN Γ.prog Γ.wf k) m))
  | .nil, c, X, W, es, hx, h => by
    simp only [mtEs] at h
    cases es with
    | nil => exact ka_nil
    | cons _ _ => cases h
  | .cons m ms, c, X, W, es, hx, h => by
    cases es with
    | nil => simp only [mtEs] at h; cases h
    | cons e r =>
      simp only [mtEs] at h
      obtain ⟨h, h3⟩ := and_inv h
      obtain ⟨h1, h2⟩ := and_inv h
      exact ka_cons (by simpa using h1) (e_ok m hx h2).1 (es_ok ms hx h3)
  | .star m ms, c, X, W, es, hx, h => by
    simp only [mtEs] at h
    split at h
    · obtain ⟨h1, h2⟩ := and_inv h
      exact ka_star (e_ok m hx h1).1 (es_ok ms hx h2)
    · cases h
theorem kw_ok : ∀ (m : Es) {c : SC} {X : Cx} {W : WX} {kws : List Keyword}, XOk Γ k c X W → mtEs Γ.T c m (kws.map Keyword.value) = true → (kws.map Keyword.value).any starB = false → PK X kws (TA1 Γ X.K W (evEs (callN Γ.prog Γ.wf k) m))
  | .nil, c, X, W, kws, hx, h, ha => by
    cases kws with
    | nil => exact kk_nil
    | cons _ _ => simp only [mtEs] at h; cases h
  | .cons m ms, c, X, W, kws, hx, h, ha => by
    cases kws with
    | nil => simp only [mtEs, List.map_nil] at h; cases h
    | cons q r =>
      simp only [mtEs, List.map_cons] at h
      obtain ⟨h, h3⟩ := and_inv h
      obtain ⟨h1, h2⟩ := and_inv h
      exact kk_cons (e_ok m hx h2).1 (kw_ok ms hx h3 (by simp only [List.map_cons, List.any_cons, Bool.or_eq_false_iff] at ha; exact ha.2))
  | .star m ms, c, X, W, kws, hx, h, ha => by
    cases kws with
    | nil => simp only [mtEs, List.map_nil] at h; cases h
    | cons q r =>
      simp only [mtEs, List.map_cons] at h
      split at h
      · next z _ e => injection e with e1 e2; simp [e1, starB] at ha
      · cases h
theorem o_ok : ∀ (m : Oe) {c : SC} {X : Cx} {W : WX} {o : Option Expr}, XOk Γ k c X W → mtO Γ.T c m o = true → PO X o (TO1 Γ X.K W (evO (callN Γ.prog Γ.wf k) m))
  | .none, c, X, W, o, hx, h => by
    simp only [mtO] at h
    cases o with
    | none => exact ko_none
    | some _ => cases h
  | .some m, c, X, W, o, hx, h => by
    cases o with
    | none => simp only [mtO] at h; cases h
    | some e => simp only [mtO] at h; exact ko_some (e_ok m hx h).1
theorem c_ok : ∀ (m : Oe) {c : SC} {X : Cx} {W : WX} {es : List Expr}, XOk Γ k c X W → mtC Γ.T c m es = true → PTs X es (TB1 Γ X.K W (evC (callN Γ.prog Γ.wf k) m))
  | .none, c, X, W, es, hx, h => by
    simp only [mtC] at h
    cases es with
    | nil => exact kc_none
    | cons _ _ => cases h
  | .some m, c, X, W, es, hx, h => by
    simp only [mtC] at h
    split at h
    · exact kc_some (e_ok m hx h).2
    · cases h
theorem it_ok : ∀ (m : MP.It) {c : SC} {X : Cx} {W : WX} {tg e : Expr}, XOk Γ k c X W → mtIt Γ.T c m tg e = true → L2.PI X tg e (TI1 X.K Γ W (evIt (callN Γ.prog Γ.wf k) m))
  | .seq m, c, X, W, tg, e, hx, h => by
    simp only [mtIt] at h
    exact ki_seq (e_ok m hx (and_inv h).1).1
  | .range es, c, X, W, tg, e, hx, h => by
    simp only [mtIt] at h
    split at h
    · obtain ⟨h, h6⟩ := and_inv h
      obtain ⟨h, h5⟩ := and_inv h
      obtain ⟨h, h4⟩ := and_inv h
      obtain ⟨h, h3⟩ := and_inv h
      obtain ⟨h1, h2⟩ := and_inv h
      exact ki_range hx (of_decide_eq_true h1) h2 h3 (by simpa using h4) (of_decide_eq_true h5) (of_decide_eq_true h6) (es_ok es hx h3)
    · cases h
  | .enum m, c, X, W, tg, e, hx, h => by
    simp only [mtIt] at h
    split at h
    · obtain ⟨h, h4⟩ := and_inv h
      obtain ⟨h, h3⟩ := and_inv h
      obtain ⟨h1, h2⟩ := and_inv h
      exact ki_enum hx (of_decide_eq_true h1) h2 (by simpa using h4) (e_ok m hx h3).1
    · cases h
  | .enumK m n, c, X, W, tg, e, hx, h => by
    simp only [mtIt] at h
    split at h
    · obtain ⟨h, h6⟩ := and_inv h
      obtain ⟨h, h5⟩ := and_inv h
      obtain ⟨h, h4⟩ := and_inv h
      obtain ⟨h, h3⟩ := and_inv h
      obtain ⟨h1, h2⟩ := and_inv h
      exact ki_enumK hx (of_decide_eq_true h1) h2 (by simpa using h5) (by simpa using h6) (e_ok m hx h3).1 (e_ok n hx h4).1
    · cases h
  | .zip m n, c, X, W, tg, e, hx, h => by
    simp only [mtIt] at h
    split at h
    · obtain ⟨h, h6⟩ := and_inv h
      obtain ⟨h, h5⟩ := and_inv h
      obtain ⟨h, h4⟩ := and_inv h
      obtain ⟨h, h3⟩ := and_inv h
      obtain ⟨h1, h2⟩ := and_inv h
      exact ki_zip hx (of_decide_eq_true h1) h2 (by simpa using h5) (by simpa using h6) (e_ok m hx h3).1 (e_ok n hx h4).1
    · cases h
  | .items m, c, X, W, tg, e, hx, h => by simp only [mtIt] at h; cases h
theorem t_ok : ∀ (m : Tg) {c : SC} {X : Cx} {W : WX} {e : Expr}, XOk Γ k c X W → mtT Γ.T c m e = true → PG X e (TG1 X.K m.slots (asgT (callN Γ.prog Γ.wf k) m))
  | .name i, c, X, W, e, hx, h => by
    simp only [mtT] at h
    split at h
    · obtain ⟨h1, h2⟩ := and_inv h
      exact kg_name hx (of_decide_eq_true h1) h2
    · cases h
  | .tup ts, c, X, W, e, hx, h => by
    simp only [mtT] at h
    split at h
    · exact kg_tup hx.calm h (ts_ok ts hx h fun i hi => hi)
    · cases h
  | .sub o i, c, X, W, e, hx, h => by
    simp only [mtT] at h
    split at h
    · obtain ⟨h, h3⟩ := and_inv h
      obtain ⟨h1, h2⟩ := and_inv h
      exact kg_sub hx (by simpa using h3) (e_ok o hx h1).1 (e_ok i hx h2).1
    · cases h
theorem ts_ok : ∀ (m : Tgs) {c : SC} {X : Cx} {W : WX} {es : List Expr} {vs : List Nat}, XOk Γ k c X W → mtTs Γ.T c m es = true → (∀ i ∈ m.slots, i ∈ vs) → PGs X es (TGs1 X.K vs (asgTs (callN Γ.prog Γ.wf k) m))
  | .nil, c, X, W, es, vs, hx, h, hv => by
    simp only [mtTs] at h
    cases es with
    | nil => exact kgs_nil
    | cons _ _ => cases h
  | .cons t ts, c, X, W, es, vs, hx, h, hv => by
    cases es with
    | nil => simp only [mtTs] at h; cases h
    | cons e r =>
      simp only [mtTs] at h
      obtain ⟨h, h3⟩ := and_inv h
      obtain ⟨h1, h2⟩ := and_inv h
      exact kgs_cons (by simpa using h1) (fun i hi => hv i (by simp [Tgs.slots, hi])) (t_ok t hx h2) (ts_ok ts hx h3 fun i hi => hv i (by simp [Tgs.slots, hi]))
end
end
end MP
/-! MP13: statements. -/
namespace MP
open PySem PySem.Spec PyProof.Rows L2
/-! ### static: what is stored how -/
def blkK (sc : Scope) : ScopeKind := if sc.kind.isAnnotationScope then .function else sc.kind
/-- is the list given a name while it is made -/
def swB (c : SC) (x : Str) (py : Pos) (v : Expr) : Bool := match v with
  | .ListComp _ _ s p => blkK c.sc == .function && c.sc.names.lookup x == some .local && py.line == p.line && !(s.names.any fun (n, k) => n == x && (k == .local || k == .cell))
  | .SetComp _ _ s p => blkK c.sc == .function && c.sc.names.lookup x == some .local && py.line == p.line && !(s.names.any fun (n, k) => n == x && (k == .local || k == .cell))
  | .DictComp _ _ _ s p => blkK c.sc == .function && c.sc.names.lookup x == some .local && py.line == p.line && !(s.names.any fun (n, k) => n == x && (k == .local || k == .cell))
  | _ => false
def nmL (sc : Scope) (l : Nat) : Expr → Option Str
  | .Name x p => if sc.names.lookup x == some .local && p.line == l then some x else none
  | _ => none
/-- a row of names stored from the right: which -/
def parN (c : SC) (ts vs : List Expr) : Option (Option (List Str)) :=
  if !(ts.length == 2 || ts.length == 3) || vs.length != ts.length || blkK c.sc != .function then some none else
  if (vs.any fun | .Starred .. => true | _ => false) = true then some none else
  let ns := ts.filterMap (nmL c.sc ((ts.head?.map (·.pos.line)).getD 0))
  if ns.length != ts.length || ns.eraseDups.length != ns.length then some none else
  if vs.all (foldedForSure 8) = true then some none else
  if vs.all (constantsAlone 8) = true then none else some (some ns)
def lcB : E → Bool
  | .lc _ _ _ _ _ _ => true
  | _ => false
def asgB (c : SC) (t : Tg) (e : E) (tg v : Expr) : Bool := match tg with
  | .Name x py => !swB c x py v || (lcB e && (match v with | .ListComp _ _ _ _ => true | _ => false))
  | .Tuple ts _ _ => (match v with
    | .Tuple vs _ _ => (match parN c ts vs with
      | none => false
      | some none => true
      | some (some ns) => (match t, e, ts, vs with
        | .tup (.cons (.name i) (.cons (.name j) .nil)), .tup _, [.Name x _, .Name y _], [_, _] => decide (i ≠ j) && c.sc.names.lookup x == some .local && c.sc.names.lookup y == some .local && decide (ns = [x, y])
        | .tup (.cons (.name i) (.cons (.name j) (.cons (.name l) .nil))), .tup _, [.Name x _, .Name y _, .Name z _], [_, _, _] => decide (i ≠ j) && decide (i ≠ l) && decide (j ≠ l) && c.sc.names.lookup x == some .local && c.sc.names.lookup y == some .local && c.sc.names.lookup z == some .local && decide (ns = [x, y, z])
        | _, _, _, _ => false))
    | _ => true)
  | .Subscript _ _ _ => true
  | _ => false
section
variable (T : PT0)
mutual
def mtS (c : SC) : S → Stmt → Bool
  | .asg t e, s => match s with
    | .Assign [tg] v _ => mtE T c e v && mtT T c t tg && asgB c t e tg v
    | _ => false
  | .expr e, s => match s with
    | .Expr v _ => mtE T c e v && !compB v
    | _ => false
  | .ret e, s => match s with
    | .Return (some v) _ => mtE T c e v
    | _ => false
  | .retN, s => match s with
    | .Return none _ => true
    | _ => false
  | .pass, s => match s with
    | .Pass _ => true
    | .Expr (.Constant (.str _) _ _) _ => true
    | _ => false
  | .brk, s => match s with
    | .Break _ => true
    | _ => false
  | .cont, s => match s with
    | .Continue _ => true
    | _ => false
  | .ife e a b, s => match s with
    | .If t x y _ => mtE T c e t && mtSs c a x && mtSs c b y
    | _ => false
  | .while e b, s => match s with
    | .While t x [] _ => mtE T c e t && mtSs c b x
    | _ => false
  | .for t it b, s => match s with
    | .For tg iter x [] _ => mtIt T c it tg iter && !setB iter && mtT T c t tg && mtSs c b x
    | _ => false
  | .raise _ _, _ => false
  | .never, _ => true
def mtSs (c : SC) : Ss → List Stmt → Bool
  | .nil, ss => ss.isEmpty
  | .cons s r, ss => match ss with
    | x :: xs => mtS c s x && mtSs c r xs
    | [] => match s with
      | .never => true
      | _ => false
end
end
/-! ### what a statement leaves -/
def OutS (Γ : Gl0) (K : PySem.W.Frag) (W : WX) (r : ResS) (w : Wd) (D : Ends) : Prop := match r with
  | .err => False
  | .ok (.nx sl) st => ∀ w' H' σ', w.Le w' → RS K w' st H' → SlR K w' σ' sl → D.nx σ' H'
  | .ok (.bk sl) st => ∀ w' H' σ', w.Le w' → RS K w' st H' → SlR K w' σ' sl → D.bk σ' H'
  | .ok (.ct sl) st => ∀ w' H' σ', w.Le w' → RS K w' st H' → SlR K w' σ' sl → D.ct σ' H'
  | .ok (.rt x) st => ∀ w' H' v, w.Le w' → RS K w' st H' → Rep K w' v x → D.rt v H'
  | .exc c x sl st => ∀ w' H' σ', w.Le w' → RS K w' st H' → SlR K w' σ' sl → EX Γ K W σ' w' H' st c x
def TS1 (Γ : Gl0) (K : PySem.W.Frag) (W : WX) (m : Slots → MS) : TS := fun D σ H => ∃ w sl st, RS K w st H ∧ SlR K w σ sl ∧ OutS Γ K W (m sl st) w D
section
variable {Γ : Gl0} {k : Nat} {c : SC} {X : Cx} {W : WX}
section
variable {K : PySem.W.Frag} {r : ResS} {w w1 : Wd} {D D' : Ends} {α : Type}
theorem OutS.le (h : OutS Γ K W r w D) (l : w.Le w1) : OutS Γ K W r w1 D := by
  cases r with
  | err => exact h
  | ok f st => cases f <;> exact fun w' H' z l' => h w' H' z (l.trans l')
  | exc c x sl st => exact fun w' H' z l' => h w' H' z (l.trans l')
theorem OutS.ofE {m : M α} {sl : Slots} {f : α → MS} {st : Store} {σ : L2.St} (h : OutS Γ K W (MP.ofE m sl f st) w D) (S : SlR K w σ sl) : Out K (m st) w (fun w1 _ st1 a => OutS Γ K W (f a st1) w1 D) (EX Γ K W σ) := by
  unfold MP.ofE at h
  cases e : m st with
  | err => rw [e] at h; exact h
  | ok a st1 => rw [e] at h; exact fun w' H' l' _ => OutS.le h l'
  | exc c x st1 => rw [e] at h; exact fun w' H' l' R' => h w' H' σ l' R' (S.le l')
theorem OutS.quiet {m : M α} {sl : Slots} {f : α → MS} {st : Store} (h : OutS Γ K W (MP.ofE (quiet m) sl f st) w D) : ∃ a st1, m st = .ok a st1 ∧ OutS Γ K W (f a st1) w D := by
  unfold MP.ofE MP.quiet at h
  cases e : m st with
  | err => rw [e] at h; exact False.elim h
  | ok a st1 => rw [e] at h; exact ⟨a, st1, rfl, h⟩
  | exc c x st1 => rw [e] at h; exact False.elim h
theorem OutS.then {m : MS} {f : Slots → MS} {st : Store} (h : OutS Γ K W (thenS m f st) w D) : OutS Γ K W (m st) w { D with nx := TS1 Γ K W f D } := by
  unfold thenS at h
  cases e : m st with
  | err => rw [e] at h; exact h
  | ok a st1 =>
    rw [e] at h
    cases a with
    | nx sl => exact fun w' H' σ' l' R' S' => ⟨w', sl, st1, R', S', OutS.le h l'⟩
    | rt x => exact h
    | bk sl => exact h
    | ct sl => exact h
  | exc c x sl st1 => rw [e] at h; exact h
/-- a turn of a loop -/
theorem OutS.turn {b : Slots → MS} {L : Slots → MS} {sl : Slots} {st : Store}
    (h : OutS Γ K W (match b sl st with | .ok (.nx sl') st' => L sl' st' | .ok (.ct sl') st' => L sl' st' | .ok (.bk sl') st' => .ok (.nx sl') st' | r => r) w D) :
    OutS Γ K W (b sl st) w { D with nx := fun σ H => ∃ w' sl st, w.Le w' ∧ RS K w' st H ∧ SlR K w' σ sl ∧ OutS Γ K W (L sl st) w' D, ct := fun σ H => ∃ w' sl st, w.Le w' ∧ RS K w' st H ∧ SlR K w' σ sl ∧ OutS Γ K W (L sl st) w' D, bk := D.nx } := by
  cases e : b sl st with
  | err => rw [e] at h; exact h
  | ok a st1 =>
    rw [e] at h
    cases a with
    | nx sl => exact fun w' H' σ' l' R' S' => ⟨w', sl, st1, l', R', S', OutS.le h l'⟩
    | ct sl => exact fun w' H' σ' l' R' S' => ⟨w', sl, st1, l', R', S', OutS.le h l'⟩
    | rt x => exact h
    | bk sl => exact h
  | exc c x sl st1 => rw [e] at h; exact h
end
theorem PS_mono {s : Stmt} {t t' : TS} (h : PS X s t) (hh : ∀ D σ H, t' D σ H → t D σ H) : PS X s t' := ⟨fun pins s σ H D I q => h.run pins s σ H D I (hh D σ H q)⟩
theorem PSs_mono {s : List Stmt} {t t' : TS} (h : PSs X s t) (hh : ∀ D σ H, t' D σ H → t D σ H) : PSs X s t' := ⟨fun pins s σ H D I q => h.run pins s σ H D I (hh D σ H q)⟩
/-! ### the rows of names -/
theorem sw_ok {x : Str} {py : Pos} {v : Expr} {l : Nat} (hx : XOk Γ k c X W) : swapsWith v (some (.Name x py)) l X.env = pure (swB c x py v) := by
  have e : X.env.scope = c.sc := hx.hsc
  cases v <;> first | rfl | (unfold swapsWith swB blkK Env.blockKind Env.kindOf; rw [e]; rfl)
theorem nm_ok {l : Nat} (hx : XOk Γ k c X W) : (fun e : Expr => match e with | .Name id pos => if X.env.kindOf id == some .local && pos.line == l then some id else none | _ => none) = nmL c.sc l := by
  have e : X.env.scope = c.sc := hx.hsc
  funext z
  cases z <;> first | rfl | (unfold nmL Env.kindOf; rw [e])
theorem par_ok {ts vs : List Expr} {k1 k2 p1 p2} {r : Option (List Str)} (hx : XOk Γ k c X W) (h : parN c ts vs = some r) : swappedStores [.Tuple ts k1 p1] (.Tuple vs k2 p2) X.env = pure r := by
  have e : X.env.scope = c.sc := hx.hsc
  have eb : X.env.blockKind = blkK c.sc := by unfold Env.blockKind blkK; rw [e]
  unfold swappedStores
  simp only []
  unfold parN at h
  simp only [] at h
  rw [eb]
  split at h
  · next h1 => cases h; exact if_pos h1
  · next h1 =>
    refine (if_neg h1).trans ?_
    split at h
    · next h2 => cases h; exact if_pos h2
    · next h2 =>
      refine (if_neg h2).trans ?_
      rw [← nm_ok hx] at h
      split at h
      · next h3 => cases h; exact if_pos h3
      · next h3 =>
        refine (if_neg h3).trans ?_
        split at h
        · next h4 => cases h; exact if_pos h4
        · next h4 =>
          refine (if_neg h4).trans ?_
          split at h
          · cases h
          · next h5 => cases h; exact if_neg h5
end
end MP
/-! MP14: every statement. -/
namespace MP
open PySem PySem.Spec PyProof.Rows L2
section
variable {Γ : Gl0} {k : Nat} {c : SC} {X : Cx} {W : WX}
theorem sw_none {v : Expr} {l : Nat} {env : Env} (h : compB v = false) : swapsWith v none l env = pure false := by cases v <;> first | rfl | cases h
theorem sw_sub {v : Expr} {l : Nat} {env : Env} {x y : Expr} {p : Pos} : swapsWithSole [.Subscript x y p] v l env = pure false := by cases v <;> rfl
theorem sw_tup {v : Expr} {l : Nat} {env : Env} {es : List Expr} {j p} : swapsWithSole [.Tuple es j p] v l env = pure false := by cases v <;> rfl
theorem st_sub {v : Expr} {env : Env} {x y : Expr} {p : Pos} : swappedStores [.Subscript x y p] v env = pure none := by cases v <;> rfl
theorem st_tup {v : Expr} {env : Env} {es : List Expr} {j p} (h : ∀ vs a b, v ≠ .Tuple vs a b) : swappedStores [.Tuple es j p] v env = pure none := by cases v <;> first | (exact absurd rfl (h _ _ _)) | rfl
/-- the law of a target stored to -/
theorem asg_law {t : Tg} {e : E} {vs : List Nat} : ∀ D σ H, TS1 Γ X.K W (evS (callN Γ.prog Γ.wf k) Γ.wf (.asg t e)) D σ H → tAsg (TE1 Γ X.K W (evE (callN Γ.prog Γ.wf k) e)) (TG1 X.K vs (asgT (callN Γ.prog Γ.wf k) t)) D σ H := by
  rintro D σ H ⟨w, sl, st, R, S, q⟩
  dsimp only [evS] at q
  refine ⟨w, sl, st, R, S, (q.ofE S).imp (fun w1 H1 st1 a l1 R1 q v r => ?_) fun _ _ _ _ _ _ _ q => q⟩
  obtain ⟨sl2, st2, e2, q⟩ := q.quiet
  refine ⟨w1, sl, st1, a, R1, S.le l1, r, ?_⟩
  rw [e2]
  exact fun w' H' l' R' σ' S' _ => q w' H' σ' l' R' S'
theorem name_law {i : Nat} {te : TE} : ∀ D σ H, tAsg te (TG1 X.K [i] (asgT (callN Γ.prog Γ.wf k) (.name i))) D σ H → (∀ {Q Q' : VK} {σ H}, (∀ v H, Q v H → Q' v H) → te σ H Q → te σ H Q') → tAsg te (gName i) D σ H := by
  intro D σ H h mono
  refine mono ?_ h
  rintro v H1 ⟨w, sl, st, x, R, S, r, q⟩
  exact q w H1 (Wd.Le.refl w) R _ (S.set i r) (Agree.set _ _ _)
theorem TE1.mono {m : Slots → M MP.W} {Q Q' : VK} {σ : L2.St} {H : Hp} (h : ∀ v H, Q v H → Q' v H) (q : TE1 Γ X.K W m σ H Q) : TE1 Γ X.K W m σ H Q' := by
  obtain ⟨w, sl, st, R, S, q⟩ := q
  exact ⟨w, sl, st, R, S, q.imp (fun _ _ _ _ _ _ q v r => h _ _ (q v r)) fun _ _ _ _ _ _ _ q => q⟩
theorem name_law2 {i : Nat} {e : E} : ∀ D σ H, TS1 Γ X.K W (evS (callN Γ.prog Γ.wf k) Γ.wf (.asg (.name i) e)) D σ H → tAsg (TE1 Γ X.K W (evE (callN Γ.prog Γ.wf k) e)) (gName i) D σ H :=
  fun D σ H h => name_law D σ H (asg_law (vs := [i]) D σ H h) TE1.mono
/-- a name of a list made on its line -/
theorem ks_lc {i : Nat} {y : Str} {py spos : Pos} {b : Bool} {own : List Nat} {t : Tg} {it : MP.It} {cond : Oe} {elt : E} {el : Expr} {gs : List Comprehension} {scope : Scope} {pos : Pos} (hx : XOk Γ k c X W)
    (hm : mtE Γ.T c (.lc b own t it cond elt) (.ListComp el gs scope pos) = true) (hi : c.N[i]? = some y) (hsw : swB c y py (.ListComp el gs scope pos) = true) :
    PS X (.Assign [.Name y py] (.ListComp el gs scope pos) spos) (TS1 Γ X.K W (evS (callN Γ.prog Γ.wf k) Γ.wf (.asg (.name i) (.lc b own t it cond elt)))) := by
  simp only [mtE] at hm
  split at hm
  · next el tg iter ifs scope pos he =>
    cases he
    obtain ⟨h, h7⟩ := and_inv hm
    obtain ⟨h, h6⟩ := and_inv h
    obtain ⟨h, h5⟩ := and_inv h
    obtain ⟨h, h4⟩ := and_inv h
    obtain ⟨h, h3⟩ := and_inv h
    obtain ⟨h1, h2⟩ := and_inv h
    have hN : X.N.Nodup := by rw [hx.hN]; exact hx.nd
    have hbk : BlkOk X.N X.env.scope scope (ownOf c.N own) := by rw [hx.hN, hx.hsc]; exact blkOk_by h4
    have hl : X.env.scope.names.lookup y = some .local := by
      rw [hx.hsc]
      unfold swB at hsw
      simp only [Bool.and_eq_true] at hsw
      exact eq_of_beq hsw.1.1.2
    refine PS_mono (ps_setLc (g := TG1 X.K t.slots (asgT (callN Γ.prog Γ.wf k) t)) (tt := TB1 Γ X.K (fun _ _ _ _ => False) (evC (callN Γ.prog Γ.wf k) cond)) (te := TE1 Γ X.K (fun _ _ _ _ => False) (evE (callN Γ.prog Γ.wf k) elt)) hx.calm hN (by rw [hx.hN]; exact hi) hl ((sw_ok hx).trans (by rw [hsw])) (it_ok it hx h1) hbk (fun s H C cl fp => t_ok t (blk_ok hx) h5) (fun s H C cl fp => c_ok cond (blk_ok hx) h6) (fun s H C cl fp => (e_ok elt (blk_ok hx) h7).1) (fun x => by cases iter <;> first | rfl | cases h2)) ?_
    intro D σ H h
    have h := name_law2 (X := X) (e := .lc b own t it cond elt) D σ H h
    exact lc_law ownOf_map (fun i hi => by simpa using List.all_eq_true.mp h3 i hi) σ H _ h
  · cases hm
theorem par2_law {i j : Nat} {es : Es} : ∀ D σ H, TS1 Γ X.K W (evS (callN Γ.prog Γ.wf k) Γ.wf (.asg (.tup (.cons (.name i) (.cons (.name j) .nil))) (.tup es))) D σ H → tPar i j (TA1 Γ X.K W (evEs (callN Γ.prog Γ.wf k) es)) D σ H := by
  rintro D σ H ⟨w, sl, st, R, S, q⟩
  dsimp only [evS] at q
  have q := q.ofE S
  dsimp only [evE] at q
  refine ⟨w, sl, st, R, S, (Out.bind q).imp (fun w1 H1 st1 ws l1 R1 q vs r => ?_) fun _ _ _ _ _ _ _ q => q⟩
  split at q
  case isFalse => exact False.elim q
  next hl =>
  have q := q w1 H1 (Wd.Le.refl _) R1
  obtain ⟨sl2, st2, e2, q⟩ := q.quiet
  dsimp only [asgT, asSeq] at e2
  split at e2
  case isFalse => cases e2
  next hn =>
  obtain ⟨a, b, rfl⟩ : ∃ a b, ws = [a, b] := by
    match ws, hn with
    | [a, b], _ => exact ⟨a, b, rfl⟩
  cases r with
  | cons ra r => cases r with
    | cons rb r => cases r with
      | nil =>
        cases e2
        exact ⟨_, _, rfl, q w1 H1 _ (Wd.Le.refl _) R1 (((S.le l1).set i ra).set j rb)⟩
theorem par3_law {i j l : Nat} {es : Es} : ∀ D σ H, TS1 Γ X.K W (evS (callN Γ.prog Γ.wf k) Γ.wf (.asg (.tup (.cons (.name i) (.cons (.name j) (.cons (.name l) .nil)))) (.tup es))) D σ H → tPar3 i j l (TA1 Γ X.K W (evEs (callN Γ.prog Γ.wf k) es)) D σ H := by
  rintro D σ H ⟨w, sl, st, R, S, q⟩
  dsimp only [evS] at q
  have q := q.ofE S
  dsimp only [evE] at q
  refine ⟨w, sl, st, R, S, (Out.bind q).imp (fun w1 H1 st1 ws l1 R1 q vs r => ?_) fun _ _ _ _ _ _ _ q => q⟩
  split at q
  case isFalse => exact False.elim q
  next hl =>
  have q := q w1 H1 (Wd.Le.refl _) R1
  obtain ⟨sl2, st2, e2, q⟩ := q.quiet
  dsimp only [asgT, asSeq] at e2
  split at e2
  case isFalse => cases e2
  next hn =>
  obtain ⟨a, b, d, rfl⟩ : ∃ a b d, ws = [a, b, d] := by
    match ws, hn with
    | [a, b, d], _ => exact ⟨a, b, d, rfl⟩
  cases r with
  | cons ra r => cases r with
    | cons rb r => cases r with
      | cons rd r => cases r with
        | nil =>
          cases e2
          exact ⟨_, _, _, rfl, q w1 H1 _ (Wd.Le.refl _) R1 ((((S.le l1).set i ra).set j rb).set l rd)⟩
theorem lk_eq {a b : Option NameKind} (h : (a == b) = true) : a = b := by
  cases a <;> cases b <;> first | rfl | (rename_i x y; cases x <;> cases y <;> first | rfl | cases h) | cases h
theorem ks_asg {t : Tg} {e : E} {tg v : Expr} {pos : Pos} (hx : XOk Γ k c X W) (he : mtE Γ.T c e v = true) (ht : mtT Γ.T c t tg = true) (ha : asgB c t e tg v = true) :
    PS X (.Assign [tg] v pos) (TS1 Γ X.K W (evS (callN Γ.prog Γ.wf k) Γ.wf (.asg t e))) := by
  have hN : X.N.Nodup := by rw [hx.hN]; exact hx.nd
  unfold asgB at ha
  split at ha
  · next x py =>
    cases t with
    | name i =>
      simp only [mtT] at ht
      obtain ⟨t1, t2⟩ := and_inv ht
      have t1 := of_decide_eq_true t1
      obtain ⟨l1, l2⟩ := loc_ok hx t2
      cases sw : swB c x py v with
      | false =>
        refine PS_mono (ps_set hN (by rw [hx.hN]; exact t1) l1 (e_ok e hx he).1 ((sw_ok hx).trans (by rw [sw])) l2) name_law2
      | true =>
        rw [sw] at ha
        simp only [Bool.not_true, Bool.false_or, Bool.and_eq_true] at ha
        obtain ⟨a1, a2⟩ := ha
        cases e <;> first | (cases a1; done) | skip
        split at a2
        · exact ks_lc hx he t1 sw
        · cases a2
    | tup _ => simp only [mtT] at ht; cases ht
    | sub _ _ => simp only [mtT] at ht; cases ht
  · next ts kk pp =>
    have hg := t_ok t hx (W := W) ht
    split at ha
    · next vs k2 p2 =>
      split at ha
      · cases ha
      · next hp => exact PS_mono (ps_asg (e_ok e hx he).1 hg sw_tup (par_ok hx hp)) asg_law
      · next ns hp =>
        split at ha
        · next i j es x px y py a b =>
          obtain ⟨ha, h4⟩ := and_inv ha
          obtain ⟨ha, h3⟩ := and_inv ha
          obtain ⟨h1, h2⟩ := and_inv ha
          have h4 := of_decide_eq_true h4
          subst h4
          simp only [mtT, mtTs] at ht
          simp only [mtE] at he
          obtain ⟨t1, ht⟩ := and_inv ht
          obtain ⟨t0, t1⟩ := and_inv t1
          obtain ⟨t2, ht⟩ := and_inv ht
          obtain ⟨t3, t2⟩ := and_inv t2
          refine PS_mono (ps_par hx.calm hN (by rw [hx.hN]; exact of_decide_eq_true (and_inv t1).1) (by rw [hx.hN]; exact of_decide_eq_true (and_inv t2).1) (of_decide_eq_true h1) (by rw [hx.hsc]; exact lk_eq h2) (by rw [hx.hsc]; exact lk_eq h3) (es_ok es hx he) (par_ok hx hp)) par2_law
        · next i j l es x px y py z pz a b d =>
          obtain ⟨ha, h7⟩ := and_inv ha
          obtain ⟨ha, h6⟩ := and_inv ha
          obtain ⟨ha, h5⟩ := and_inv ha
          obtain ⟨ha, h4⟩ := and_inv ha
          obtain ⟨ha, h3⟩ := and_inv ha
          obtain ⟨h1, h2⟩ := and_inv ha
          have h7 := of_decide_eq_true h7
          subst h7
          simp only [mtT, mtTs] at ht
          simp only [mtE] at he
          obtain ⟨t1, ht⟩ := and_inv ht
          obtain ⟨t0, t1⟩ := and_inv t1
          obtain ⟨t2, ht⟩ := and_inv ht
          obtain ⟨t3, t2⟩ := and_inv t2
          obtain ⟨t4, ht⟩ := and_inv ht
          obtain ⟨t5, t4⟩ := and_inv t4
          refine PS_mono (ps_par3 hx.calm hN (by rw [hx.hN]; exact of_decide_eq_true (and_inv t1).1) (by rw [hx.hN]; exact of_decide_eq_true (and_inv t2).1) (by rw [hx.hN]; exact of_decide_eq_true (and_inv t4).1) (of_decide_eq_true h1) (of_decide_eq_true h2) (of_decide_eq_true h3) (by rw [hx.hsc]; exact lk_eq h4) (by rw [hx.hsc]; exact lk_eq h5) (by rw [hx.hsc]; exact lk_eq h6) (es_ok es hx he) (par_ok hx hp)) par3_law
        · cases ha
    · next hv => exact PS_mono (ps_asg (e_ok e hx he).1 hg sw_tup (st_tup fun vs a b z => hv vs a b z)) asg_law
  · exact PS_mono (ps_asg (e_ok e hx he).1 (t_ok t hx (W := W) ht) sw_sub st_sub) asg_law
  · cases ha
theorem ks_while {e : E} {b : Ss} {t : Expr} {body : List Stmt} {pos : Pos} (hx : XOk Γ k c X W) (hc : PT X t (TT1 Γ X.K W (evE (callN Γ.prog Γ.wf k) e))) (hb : PSs X body (TS1 Γ X.K W (evSs (callN Γ.prog Γ.wf k) Γ.wf b))) :
    PS X (.While t body [] pos) (TS1 Γ X.K W (evS (callN Γ.prog Γ.wf k) Γ.wf (.while e b))) := by
  refine PS_mono (ps_while hx.pso hc hb) ?_
  rintro D σ H ⟨w, sl, st, R, S, q⟩
  dsimp only [evS] at q
  refine ⟨fun m σ H => ∃ w sl st, RS X.K w st H ∧ SlR X.K w σ sl ∧ OutS Γ X.K W (whileL (evE (callN Γ.prog Γ.wf k) e) (evSs (callN Γ.prog Γ.wf k) Γ.wf b) m sl st) w D, ⟨Γ.wf, w, sl, st, R, S, q⟩, ?_⟩
  rintro m σ H ⟨w, sl, st, R, S, q⟩
  cases m with
  | zero => exact False.elim q
  | succ m =>
    unfold whileL at q
    refine ⟨w, sl, st, R, S, (q.ofE S).imp (fun w1 H1 st1 a l1 R1 q => ?_) fun _ _ _ _ _ _ _ q => q⟩
    split at q
    · refine ⟨true, rfl, ?_⟩
      show if true = true then _ else _
      rw [if_pos rfl]
      refine ⟨fun σ' H' => ∃ w' sl st, w1.Le w' ∧ RS X.K w' st H' ∧ SlR X.K w' σ' sl ∧ OutS Γ X.K W (whileL (evE (callN Γ.prog Γ.wf k) e) (evSs (callN Γ.prog Γ.wf k) Γ.wf b) m sl st) w' D, ?_, w1, sl, st1, R1, S.le l1, q.turn⟩
      rintro σ' H' ⟨w', sl, st, l, R, S, q⟩
      exact ⟨m, Nat.lt_succ_self m, w', sl, st, R, S, q⟩
    · refine ⟨false, rfl, ?_⟩
      show if false = true then _ else _
      rw [if_neg (by decide)]
      exact q w1 H1 σ (Wd.Le.refl _) R1 (S.le l1)
    · exact False.elim q
theorem ks_for {t : Tg} {it : MP.It} {b : Ss} {tg iter : Expr} {body : List Stmt} {pos : Pos} {vs : List Nat} (hx : XOk Γ k c X W) (hset : setB iter = false) (hi : L2.PI X tg iter (TI1 X.K Γ W (evIt (callN Γ.prog Γ.wf k) it))) (hg : PG X tg (TG1 X.K vs (asgT (callN Γ.prog Γ.wf k) t))) (hb : PSs X body (TS1 Γ X.K W (evSs (callN Γ.prog Γ.wf k) Γ.wf b))) :
    PS X (.For tg iter body [] pos) (TS1 Γ X.K W (evS (callN Γ.prog Γ.wf k) Γ.wf (.for t it b))) := by
  refine PS_mono (ps_for hx.pso hx.calm hi hg hb (fun x => by cases iter <;> first | rfl | cases hset)) ?_
  rintro D σ H ⟨w, sl, st, R, S, q⟩
  dsimp only [evS] at q
  refine ⟨w, sl, st, R, S, (q.ofE S).imp (fun w1 H1 st1 src l1 R1 q J hJ => ?_) fun _ _ _ _ _ _ _ q => q⟩
  refine ⟨fun i m σ H => ∃ w' sl st, w1.Le w' ∧ RS X.K w' st H ∧ SlR X.K w' σ sl ∧ i + m = src.len ∧ OutS Γ X.K W (forL src (asgT (callN Γ.prog Γ.wf k) t) (evSs (callN Γ.prog Γ.wf k) Γ.wf b) m i sl st) w' D, ⟨src.len, w1, sl, st1, Wd.Le.refl _, R1, S.le l1, Nat.zero_add _, q⟩, ?_⟩
  rintro i m σ H ⟨w2, sl, st, l2, R2, S2, him, q⟩
  cases m with
  | zero =>
    left
    dsimp only [forL] at q
    split at q
    · next hf =>
      refine ⟨?_, q w2 H σ (Wd.Le.refl _) R2 S2⟩
      have := hJ.stops w2 st H l2.gr R2 hf
      rw [show i = src.len by omega]; exact this
    · exact False.elim q
  | succ m =>
    right
    dsimp only [forL] at q
    split at q
    · next x ex =>
      refine ⟨hJ.goes i w2 st H x l2.gr R2 ex, fun σ' H' => ∃ w' sl st, w2.Le w' ∧ RS X.K w' st H' ∧ SlR X.K w' σ' sl ∧ OutS Γ X.K W (forL src (asgT (callN Γ.prog Γ.wf k) t) (evSs (callN Γ.prog Γ.wf k) Γ.wf b) m (i + 1) sl st) w' D, ?_, ?_⟩
      · rintro σ' H' ⟨w', sl, st, l, R, S, q⟩
        exact ⟨m, Nat.lt_succ_self m, w', sl, st, l2.trans l, R, S, by omega, q⟩
      · intro v H3 hy
        obtain ⟨w3, l3, R3, rv⟩ := hJ.yields i w2 st H x v H3 l2.gr R2 ex hy
        obtain ⟨sl4, st4, e4, q⟩ := q.quiet
        refine ⟨w3, sl, st, x, R3, S2.le l3, rv, ?_⟩
        rw [e4]
        intro w4 H4 l4 R4 σ4 S4 _
        refine ⟨w4, sl4, st4, R4, S4, ?_⟩
        have q := (OutS.le q (l3.trans l4)).turn
        have tr : ∀ {σ' : L2.St} {H' : Hp}, (∃ w' sl st, w4.Le w' ∧ RS X.K w' st H' ∧ SlR X.K w' σ' sl ∧ OutS Γ X.K W (forL src (asgT (callN Γ.prog Γ.wf k) t) (evSs (callN Γ.prog Γ.wf k) Γ.wf b) m (i + 1) sl st) w' D) → ∃ w' sl st, w2.Le w' ∧ RS X.K w' st H' ∧ SlR X.K w' σ' sl ∧ OutS Γ X.K W (forL src (asgT (callN Γ.prog Γ.wf k) t) (evSs (callN Γ.prog Γ.wf k) Γ.wf b) m (i + 1) sl st) w' D := by
          rintro σ' H' ⟨w', sl, st, l, z⟩
          exact ⟨w', sl, st, (l3.trans l4).trans l, z⟩
        cases eb : evSs (callN Γ.prog Γ.wf k) Γ.wf b sl4 st4 with
        | err => rw [eb] at q; exact q
        | ok f st5 =>
          rw [eb] at q
          cases f with
          | nx sl5 => exact fun w' H' σ' l R S => tr (q w' H' σ' l R S)
          | ct sl5 => exact fun w' H' σ' l R S => tr (q w' H' σ' l R S)
          | bk sl5 => exact q
          | rt x => exact q
        | exc _ _ _ _ => rw [eb] at q; exact q
    · exact False.elim q
mutual
theorem s_ok : ∀ (m : S) {c : SC} {X : Cx} {W : WX} {s : Stmt}, XOk Γ k c X W → mtS Γ.T c m s = true → PS X s (TS1 Γ X.K W (evS (callN Γ.prog Γ.wf k) Γ.wf m))
  | .asg t e, c, X, W, s, hx, h => by
    simp only [mtS] at h
    split at h
    · obtain ⟨h, h3⟩ := and_inv h
      obtain ⟨h1, h2⟩ := and_inv h
      exact ks_asg hx h1 h2 h3
    · cases h
  | .expr e, c, X, W, s, hx, h => by
    simp only [mtS] at h
    split at h
    · obtain ⟨h1, h2⟩ := and_inv h
      refine PS_mono (ps_expr (e_ok e hx h1).1 (sw_none (by simpa using h2))) ?_
      rintro D σ H ⟨w, sl, st, R, S, q⟩
      dsimp only [evS] at q
      exact ⟨w, sl, st, R, S, (q.ofE S).imp (fun w1 H1 st1 a l1 R1 q v r => q w1 H1 σ (Wd.Le.refl _) R1 (S.le l1)) fun _ _ _ _ _ _ _ q => q⟩
    · cases h
  | .ret e, c, X, W, s, hx, h => by
    simp only [mtS] at h
    split at h
    · refine PS_mono (ps_ret (e_ok e hx h).1) ?_
      rintro D σ H ⟨w, sl, st, R, S, q⟩
      dsimp only [evS] at q
      exact ⟨w, sl, st, R, S, (q.ofE S).imp (fun w1 H1 st1 a l1 R1 q v r => q w1 H1 v (Wd.Le.refl _) R1 r) fun _ _ _ _ _ _ _ q => q⟩
    · cases h
  | .retN, c, X, W, s, hx, h => by
    simp only [mtS] at h
    split at h
    · refine PS_mono ps_retN ?_
      rintro D σ H ⟨w, sl, st, R, S, q⟩
      exact q w H _ (Wd.Le.refl _) R .non
    · cases h
  | .pass, c, X, W, s, hx, h => by
    simp only [mtS] at h
    split at h
    · refine PS_mono ps_pass ?_
      rintro D σ H ⟨w, sl, st, R, S, q⟩
      exact q w H _ (Wd.Le.refl _) R S
    · refine PS_mono ps_doc ?_
      rintro D σ H ⟨w, sl, st, R, S, q⟩
      exact q w H _ (Wd.Le.refl _) R S
    · cases h
  | .brk, c, X, W, s, hx, h => by
    simp only [mtS] at h
    split at h
    · refine PS_mono ps_break ?_
      rintro D σ H ⟨w, sl, st, R, S, q⟩
      exact q w H _ (Wd.Le.refl _) R S
    · cases h
  | .cont, c, X, W, s, hx, h => by
    simp only [mtS] at h
    split at h
    · refine PS_mono ps_continue ?_
      rintro D σ H ⟨w, sl, st, R, S, q⟩
      exact q w H _ (Wd.Le.refl _) R S
    · cases h
  | .ife e a b, c, X, W, s, hx, h => by
    simp only [mtS] at h
    split at h
    · obtain ⟨h, h3⟩ := and_inv h
      obtain ⟨h1, h2⟩ := and_inv h
      refine PS_mono (ps_if (e_ok e hx h1).2 (ss_ok a hx h2) (ss_ok b hx h3)) ?_
      rintro D σ H ⟨w, sl, st, R, S, q⟩
      dsimp only [evS] at q
      refine ⟨w, sl, st, R, S, (q.ofE S).imp (fun w1 H1 st1 x l1 R1 q => ?_) fun _ _ _ _ _ _ _ q => q⟩
      split at q
      · exact ⟨true, rfl, by show if true = true then _ else _; rw [if_pos rfl]; exact ⟨w1, sl, st1, R1, S.le l1, q⟩⟩
      · exact ⟨false, rfl, by show if false = true then _ else _; rw [if_neg (by decide)]; exact ⟨w1, sl, st1, R1, S.le l1, q⟩⟩
      · exact False.elim q
    · cases h
  | .while e b, c, X, W, s, hx, h => by
    simp only [mtS] at h
    split at h
    · obtain ⟨h1, h2⟩ := and_inv h
      exact ks_while hx (e_ok e hx h1).2 (ss_ok b hx h2)
    · cases h
  | .for t it b, c, X, W, s, hx, h => by
    simp only [mtS] at h
    split at h
    · obtain ⟨h, h4⟩ := and_inv h
      obtain ⟨h, h3⟩ := and_inv h
      obtain ⟨h1, h2⟩ := and_inv h
      exact ks_for hx (by simpa using h2) (it_ok it hx h1) (t_ok t hx (W := W) h3) (ss_ok b hx h4)
    · cases h
  | .raise _ _, c, X, W, s, hx, h => by simp only [mtS] at h; cases h
  | .never, c, X, W, s, hx, h => PS_mono ps_never fun D σ H ⟨w, sl, st, R, S, q⟩ => q
theorem ss_ok : ∀ (m : Ss) {c : SC} {X : Cx} {W : WX} {s : List Stmt}, XOk Γ k c X W → mtSs Γ.T c m s = true → PSs X s (TS1 Γ X.K W (evSs (callN Γ.prog Γ.wf k) Γ.wf m))
  | .nil, c, X, W, s, hx, h => by
    simp only [mtSs] at h
    cases s with
    | nil =>
      refine PSs_mono pss_nil ?_
      rintro D σ H ⟨w, sl, st, R, S, q⟩
      exact q w H _ (Wd.Le.refl _) R S
    | cons _ _ => cases h
  | .cons m ms, c, X, W, s, hx, h => by
    cases s with
    | nil =>
      simp only [mtSs] at h
      split at h
      · refine PSs_mono pss_never ?_
        rintro D σ H ⟨w, sl, st, R, S, q⟩
        exact q
      · cases h
    | cons x xs =>
      simp only [mtSs] at h
      obtain ⟨h1, h2⟩ := and_inv h
      refine PSs_mono (pss_cons (s_ok m hx h1) (ss_ok ms hx h2)) ?_
      rintro D σ H ⟨w, sl, st, R, S, q⟩
      dsimp only [evSs] at q
      exact ⟨w, sl, st, R, S, q.then⟩
end
end
end MP
/-! MP15: every def does what the evaluator says; the law at its call. -/
namespace MP
open PySem PySem.Spec PyProof.Rows L2
structure DOk (Γ : Gl0) (K : PySem.W.Frag) (d : Fn) : Prop where
  fnd : find Γ.prog d.id = some d
  le : d.np ≤ d.N.length
  ex : ∃ x qual params body scope, FunD K x qual params body scope [] [] (Γ.fa d.id) (Γ.fdn d.id) ∧ FnScope d.N (d.N.take d.np) scope ∧ mtSs Γ.T ⟨d.N, scope, fun _ => true⟩ d.body body = true
section
variable {Γ : Gl0} {P : Program} {w : World} {K : PySem.W.Frag} {mg : Str → Option Value} {base : Heap}
theorem backR_out {k : Nat} {r : ResS} {wd : Wd} {Q : VK} {E : XK} {W : WX} (hW : ∀ cls dd σ H', W cls dd σ H' = E cls dd H')
    (h : Out K (backR r) wd (RV (K := K) Q) (fun w' H' _ c x => ∀ d v, w'.F d = some (.xd [(Γ.fld c, v)]) → Rep K w' v x → E (.ref (Γ.cl c)) (some d) H')) :
    OutS Γ K W r wd { nx := fun _ H' => Q .non H', rt := Q } := by
  cases r with
  | err => exact h
  | ok f st =>
    cases f with
    | nx sl => exact fun w' H' σ' l R _ => h w' H' l R .non .non
    | rt x => exact fun w' H' v l R r => h w' H' l R v r
    | bk sl => exact False.elim h
    | ct sl => exact False.elim h
  | exc c x sl st => exact fun w' H' σ' l R _ d v e r => by rw [hW]; exact h w' H' l R d v e r
theorem slR_start {wd : Wd} {N : List Str} {vs : List V} {ws : List MP.W} (r : Reps K wd vs ws) : SlR K wd (L2.start N vs) (startW N.length ws) := by
  refine ⟨by simp [L2.start, startW, r.length], fun i x e => ?_⟩
  unfold startW at e
  unfold L2.start
  rcases Nat.lt_or_ge i ws.length with hl | hl
  · rw [List.getElem?_append_left (by simpa using hl), List.getElem?_map] at e
    obtain ⟨y, e1, e2⟩ := Option.map_eq_some_iff.mp e
    cases e2
    obtain ⟨v, e3, rv⟩ := r.get e1
    exact ⟨v, by rw [List.getElem?_append_left (by simpa [r.length] using hl), List.getElem?_map, e3]; rfl, rv⟩
  · rw [List.getElem?_append_right (by simpa using hl)] at e
    rw [List.getElem?_replicate] at e
    split at e <;> cases e
theorem fnG_all (D : ∀ d ∈ Γ.prog, DOk Γ K d) (G : GOk Γ K mg) : ∀ k, ∀ d ∈ Γ.prog, FnG Γ P w K mg base k d := by
  intro k
  induction k with
  | zero =>
    intro d hd A outer s H args us vs Q E hr hg e0 hb r hl hsp
    obtain ⟨wd, st, as, _, _, h⟩ := hsp
    exact False.elim h
  | succ k ih =>
    intro d hd A outer s H args us vs Q E hr hg e0 hb r hl hsp
    obtain ⟨fnd, le, x, qual, params, body, scope, F, S, hm⟩ := D d hd
    obtain ⟨oc, od, dV, kV, doc, pm, an, cdv, ct, osl, efd, lk, hcd, _, _⟩ := F.ex
    rw [efd] at hb lk
    have hN : (d.N.take d.np).length = d.np := by rw [List.length_take]; omega
    refine LamX.run_ofS (N := d.N) lk hcd S hr e0 hb r (by rw [hN, r.length]; exact hl) fun hr' => ?_
    have hX : XOk Γ k ⟨d.N, scope, fun _ => true⟩ (cxOf (L2.CX P w) P w K mg base d.N qual scope (Γ.fa d.id) cdv A outer s H E) (fun cls dd _ H' => E cls dd H') := {
      gok := G
      fns := ih
      hN := rfl
      nd := S.nd
      hsc := rfl
      hfn := rfl
      calm := rfl
      room := hr'
      gd := hg
      tk := takes_of rfl rfl rfl rfl
      pso := passes_of rfl }
    refine ⟨_, ss_ok d.body hX hm, ?_⟩
    obtain ⟨wd, st, as, R, rr, h⟩ := hsp
    refine ⟨wd, startW d.N.length as, st, R, slR_start rr, ?_⟩
    unfold callN at h
    simp only [fnd] at h
    rw [if_pos (by rw [← rr.length, r.length]; exact hl)] at h
    exact backR_out (k := k) (fun _ _ _ _ => rfl) h
end
/-! ### the law at its call -/
section
variable {Γ : Gl0} {P : Program} {w : World} {K : PySem.W.Frag} {mg mb : Str → Option Value}
/-- a heap in which nobody lives but the script -/
def world0 (H : Hp) : Wd := ⟨[], H, fun _ => none⟩
theorem rs0 (H : Hp) : RS K (world0 H) [] H where
  fr := fun a o e => e
  gr := fun a o e => by cases e
  len := rfl
  inj := fun n m a e => by simp [world0] at e
  tr := fun n a e => by simp [world0] at e
  cells := fun n a c e => by simp [world0] at e
/-- nobody is tracked but the script, and that as it stands -/
structure OnlyS (K : PySem.W.Frag) (h : Heap) (a : Addr) (ob : Obj) (H : Hp) : Prop where
  one : ∀ b u, H b = some u → b = a ∧ (∃ xs, u = .frz ob (.lst xs)) ∧ K.lookup a = none
theorem lawC {k : Nat} {a : Addr} {d : Fn} {s : Shared} {vs : List Value} {H : Hp} (O : OnlyS K s.heap a { cls := .type "list", data := .seq vs.toArray } H) (hok : HOk P w H s.heap)
    (KX : K.In s.heap) (hns : s.heap.Ns mainGlobals mg) (hb : s.heap.Ns builtinsNs mb) (hbb : ∀ y : Str, y ≠ "__name__" → mb y = bootBuiltins y) (hlim : s.heap.NoLimit) (hg : s.gens = #[])
    (ha : s.heap.get? a = some { cls := .type "list", data := .seq vs.toArray }) (hr : Room k callerA)
    (F : ∀ base : Heap, K.In base → base.Ns mainGlobals mg → FnG Γ P w K mg base k d) (hbind : BindsTo s (Γ.fdn d.id) ⟨[.ref a], []⟩ ((d.N.take d.np).zip [.ref a])) (hnp : d.np = 1)
    (pr : spW Γ K (callN Γ.prog Γ.wf k d.id) [.ref a] H (fun v _ => v = .bl true) fun _ _ _ => False) :
    codeAny (model P w) callerA (.call (.ref (Γ.fa d.id)) ⟨[.ref a], []⟩) (fun r s' => r = .ok (.ret (.bool true)) ∧ OldK s.heap s'.heap ∧ s'.os = s.os ∧ AllBare s'.gens) s := by
  -- what is not tracked stands in the base
  have low : ∀ {b : Addr} {o : Obj}, s.heap.get? b = some o → (b = a → K.lookup a = none → False) → (hidT s.heap H).get? b = some o := fun {b o} e n => hidT_get e (by
    cases z : H b with
    | none => rfl
    | some u => obtain ⟨z1, _, z3⟩ := O.one b u z; exact (n z1 z3).elim)
  have lowNs : ∀ {b : Addr} {m : Str → Option Value}, s.heap.Ns b m → (hidT s.heap H).Ns b m := fun {b m} ⟨o, es, ep, e, q, r⟩ => ⟨o, es, ep, low e (fun z _ => by subst z; rw [ha] at e; cases e; cases q), q, r⟩
  have lowK : K.In (hidT s.heap H) := fun b o e => low (KX b o e) (fun z1 z2 => by subst z1; rw [z2] at e; cases e)
  obtain ⟨mc, lim1, lim2⟩ := hlim
  have start : Env0 P w K mg (hidT s.heap H) callerA [] s H := {
    frames := rfl
    mod := ⟨lowK, lowNs hns, ⟨mb, lowNs hb, hbb⟩, ⟨mc, lowNs lim1, lim2⟩⟩
    bs := fun b o e => of_hidT e
    bsz := Nat.le_of_eq (hidT_size _ _)
    funs := trivial
    frf := fun b z => nomatch (show b ∈ ([] : List Addr) from z)
    hok := hok
    bare := .of_eq hg }
  have goes := F _ lowK (lowNs hns) callerA [] s H ⟨[.ref a], []⟩ [.ref a] [.ref a] _ _ hr rfl start hbind (.cons rfl .nil) (by rw [hnp]; rfl) pr
  refine codeAny_mono goes fun r s' end_ => ?_
  match r, end_ with
  | .error e, ⟨_, _, _, _, _, _, _, _, _, _, _, _, z⟩ => exact z.elim
  | .ok .next, z => exact False.elim z
  | .ok .brk, z => exact False.elim z
  | .ok .cont, z => exact False.elim z
  | .ok (.ret u), ⟨v, H', o1, o2, un, hok', rv, q⟩ =>
    have q : v = .bl true := q
    subst q
    cases (show u = Value.bool true from rv)
    refine ⟨rfl, OldK.of_keep fun b o e => ?_, o1, o2⟩
    cases z : H b with
    | none => exact un.keep b o e z (fun y => nomatch (show b ∈ ([] : List Addr) from y)) (fun y => nomatch y)
    | some u =>
      obtain ⟨_, ⟨xs, rfl⟩, _⟩ := O.one b u z
      have o3 := (hok b _ z).1
      have o4 := (hok' b _ (un.frzs b _ _ z)).1
      rw [e] at o3; cases o3
      exact o4
theorem lawG {k : Nat} {a : Addr} {d : Fn} {s : Shared} {vs : List Value} {is : List Int}
    (KX : K.In s.heap) (hns : s.heap.Ns mainGlobals mg) (hb : s.heap.Ns builtinsNs mb) (hbb : ∀ y : Str, y ≠ "__name__" → mb y = bootBuiltins y) (hlim : s.heap.NoLimit) (hg : s.gens = #[])
    (ha : s.heap.get? a = some { cls := .type "list", data := .seq vs.toArray }) (hi : IntsAre vs is) (hl : is.length ≤ sizeLine) (hr : Room k callerA)
    (F : ∀ base : Heap, K.In base → base.Ns mainGlobals mg → FnG Γ P w K mg base k d) (hbind : BindsTo s (Γ.fdn d.id) ⟨[.ref a], []⟩ ((d.N.take d.np).zip [.ref a])) (hnp : d.np = 1)
    (pr : ∀ H : Hp, SqL K H a (is.map V.int) → spW Γ K (callN Γ.prog Γ.wf k d.id) [.ref a] H (fun v _ => v = .bl true) fun _ _ _ => False) :
    codeAny (model P w) callerA (.call (.ref (Γ.fa d.id)) ⟨[.ref a], []⟩) (fun r s' => r = .ok (.ret (.bool true)) ∧ OldK s.heap s'.heap ∧ s'.os = s.os ∧ AllBare s'.gens) s := by
  have rv := vals_ints hi
  cases z : K.lookup a with
  | some o =>
    have e := KX a o z
    rw [ha] at e; cases e
    exact lawC (H := fun _ => none) ⟨fun b u y => by cases y⟩ (fun b u y => by cases y) KX hns hb hbb hlim hg ha hr F hbind hnp
      (pr _ (.inr ⟨_, vs.toArray, _, z, rfl, rfl, rfl, by simpa [hi.length] using hl, by simpa using rv⟩))
  | none =>
    refine lawC (H := upd (fun _ => none) a (.frz { cls := .type "list", data := .seq vs.toArray } (.lst (is.map V.int)))) ⟨fun b u y => ?_⟩ (fun b u y => ?_) KX hns hb hbb hlim hg ha hr F hbind hnp (pr _ (.inl (.inr ⟨_, upd_same⟩)))
    · by_cases q : b = a
      · subst q; rw [upd_same] at y; cases y; exact ⟨rfl, ⟨_, rfl⟩, z⟩
      · rw [upd_ne q] at y; cases y
    · by_cases q : b = a
      · subst q; rw [upd_same] at y; cases y
        exact ⟨ha, by rw [List.length_map]; exact hl, vs, _, rv, ha⟩
      · rw [upd_ne q] at y; cases y
theorem run_law {k : Nat} {fa a : Addr} {d : Fn} {s : Shared} {vs : List Value} {is : List Int}
    (KX : K.In s.heap) (hns : s.heap.Ns mainGlobals mg) (hb : s.heap.Ns builtinsNs mb) (hbb : ∀ y : Str, y ≠ "__name__" → mb y = bootBuiltins y) (hlim : s.heap.NoLimit) (hg : s.gens = #[])
    (ha : s.heap.get? a = some { cls := .type "list", data := .seq vs.toArray }) (hi : IntsAre vs is) (hl : is.length ≤ sizeLine) (hr : Room k callerA)
    (F : ∀ base : Heap, K.In base → base.Ns mainGlobals mg → FnG Γ P w K mg base k d) (hfa : fa = Γ.fa d.id) (hbind : BindsTo s (Γ.fdn d.id) ⟨[.ref a], []⟩ ((d.N.take d.np).zip [.ref a])) (hnp : d.np = 1)
    (hev : ∃ st, callN Γ.prog Γ.wf k d.id [.scr is] [] = .ok (.bl true) st) :
    codeAny (model P w) callerA (.call (.ref fa) ⟨[.ref a], []⟩) (fun r s' => r = .ok (.ret (.bool true)) ∧ OldK s.heap s'.heap ∧ s'.os = s.os ∧ AllBare s'.gens) s := by
  subst hfa
  obtain ⟨stE, hev⟩ := hev
  have promise : ∀ H : Hp, SqL K H a (is.map V.int) → spW Γ K (callN Γ.prog Γ.wf k d.id) [.ref a] H (fun v _ => v = .bl true) fun _ _ _ => False := fun H q => by
    refine ⟨world0 H, [], [.scr is], rs0 H, .cons (.scr q hl) .nil, ?_⟩
    rw [hev]
    intro w' H' _ _ v r
    cases r
    rfl
  exact lawG KX hns hb hbb hlim hg ha hi hl hr F hbind hnp promise
end
end MP
/-! MP16: what a call binds. -/
namespace MP
open PySem PySem.Spec PyProof.Rows L2
theorem lookup_ix {α : Type} {vals : List α} {names : List Str} (nd : names.Nodup) {i : Nat} {n : Str} (h : names[i]? = some n) : List.lookup n (names.zip vals) = vals[i]? := by
  induction names generalizing vals i with
  | nil => simp at h
  | cons p ps ih =>
    obtain ⟨n1, n2⟩ := List.nodup_cons.mp nd
    cases vals with
    | nil => simp
    | cons v vs =>
      rw [List.zip_cons_cons, List.lookup_cons]
      cases i with
      | zero =>
        simp at h
        subst h
        simp
      | succ i =>
        have h : ps[i]? = some n := by simpa using h
        have ne : (n == p) = false := by
          cases e : n == p with
          | false => rfl
          | true => exact absurd (eq_of_beq e ▸ List.mem_of_getElem? h) n1
        simp only [ne]
        simpa using ih n2 h
theorem forKw {ps : List Str} {f : Str × Value → List (Str × Value) × List (Str × Value) → Sem (ForInStep (List (Str × Value) × List (Str × Value)))}
    (hf : ∀ x s, x.1 ∈ ps → (List.lookup x.1 s.1).isSome = false → f x s = pure (.yield (s.1 ++ [(x.1, x.2)], s.2))) : ∀ (kw init : List (Str × Value)), (∀ x ∈ kw, x.1 ∈ ps) → (init.map (·.1) ++ kw.map (·.1)).Nodup → forIn kw (init, []) f = pure (init ++ kw, [])
  | [], init, _, _ => by simp
  | x :: kw, init, h1, h2 => by
    have h3 : (List.lookup x.1 init).isSome = false := by
      cases e : List.lookup x.1 init with
      | none => rfl
      | some v =>
        exfalso
        have : x.1 ∈ init.map (·.1) := by
          clear h2
          induction init with
          | nil => cases e
          | cons y ys ih =>
            rw [List.lookup_cons] at e
            cases q : x.1 == y.1 with
            | true => simp [eq_of_beq q]
            | false => rw [q] at e; simp only [List.map_cons, List.mem_cons]; exact .inr (ih e)
        exact (List.nodup_append.mp h2).2.2 x.1 this x.1 (by simp) rfl
    rw [List.forIn_cons, hf x (init, []) (h1 x (by simp)) h3]
    show forIn kw (init ++ [(x.1, x.2)], []) f = _
    rw [forKw hf kw (init ++ [(x.1, x.2)]) (fun y hy => h1 y (by simp [hy])) (by simpa using h2)]
    simp
/-- where the values of the parameters stand among those given -/
def permB (ps : List Str) (n : Nat) (ks : List Str) (perm : List Nat) : Bool := decide (n ≤ ps.length) && decide ((ps.take n ++ ks).Nodup) && ks.all (fun k => ps.contains k) && decide (perm.map (fun i => (ps.take n ++ ks)[i]?) = ps.map some)
def plainB (p : Arguments) (ps : List Str) : Bool := p.posonlyargs.isEmpty && p.vararg.isNone && p.kwonlyargs.isEmpty && p.kwarg.isNone && decide (p.args.map (·.arg) = ps) && decide ps.Nodup
theorem allOpt_len {α β : Type} {f : α → Option β} : ∀ {l : List α} {r : List β}, allOpt f l = some r → r.length = l.length
  | [], r, h => by simp [allOpt] at h; subst h; rfl
  | a :: l, r, h => by
    simp only [allOpt] at h
    cases e : f a with
    | none => rw [e] at h; cases h
    | some b =>
      rw [e] at h
      cases e2 : allOpt f l with
      | none => rw [e2] at h; cases h
      | some bs => rw [e2] at h; cases h; simp [allOpt_len e2]
theorem perm_vals {α : Type} {names : List Str} {vals : List α} (nd : names.Nodup) (hl : vals.length = names.length) : ∀ {ps : List Str} {perm : List Nat}, perm.map (fun i => names[i]?) = ps.map some →
    ∃ vs, allOpt (fun i => vals[i]?) perm = some vs ∧ (ps.filterMap fun n => Option.map (fun x => (n, x)) (List.lookup n (names.zip vals))) = ps.zip vs ∧ ∀ n ∈ ps, (List.lookup n (names.zip vals)).isNone = false
  | [], [], _ => ⟨[], rfl, by simp, by simp⟩
  | [], _ :: _, h => by cases h
  | _ :: _, [], h => by cases h
  | p :: ps, i :: perm, h => by
    simp only [List.map_cons, List.cons.injEq] at h
    obtain ⟨vs, e1, e2, e3⟩ := perm_vals nd hl h.2
    have hi : i < names.length := by
      rcases Nat.lt_or_ge i names.length with z | z
      · exact z
      · rw [List.getElem?_eq_none z] at h; cases h.1
    have e : vals[i]? = some vals[i] := List.getElem?_eq_getElem (by omega)
    have e4 : List.lookup p (names.zip vals) = some vals[i] := by rw [lookup_ix nd h.1, e]
    refine ⟨vals[i] :: vs, ?_, ?_, ?_⟩
    · simp only [allOpt, e, e1]
    · rw [List.filterMap_cons, e4]; simp [e2]
    · intro n hn
      rcases List.mem_cons.mp hn with z | z
      · subst z; rw [e4]; rfl
      · exact e3 n z
theorem zip_take {ps : List Str} {us : List Value} : ps.zip us = (ps.take us.length).zip us := by
  induction ps generalizing us with
  | nil => simp
  | cons p ps ih => cases us with
    | nil => simp
    | cons u us => simp [← ih]
theorem bind_kw {x qual : Str} {params : Arguments} {body : List Stmt} {scope : Scope} {kV doc pm : Value} {an : Option Addr} {cdv ct : Value} {ps ks : List Str} {perm : List Nat} {us ws : List Value} (hB : plainB params ps = true) (hP : permB ps us.length ks perm = true) (hw : ws.length = ks.length) :
    ∃ vs, allOpt (fun i => (us ++ ws)[i]?) perm = some vs ∧ bindArgs (PySem.W.fnOf x qual params body scope .none kV doc pm an cdv ct) ⟨us, ks.zip ws⟩ = pure (ps.zip vs) := by
  unfold plainB at hB
  simp only [Bool.and_eq_true, List.isEmpty_iff, Option.isNone_iff_eq_none, decide_eq_true_eq] at hB
  obtain ⟨⟨⟨⟨⟨hp, hv⟩, hk⟩, hkw⟩, ha⟩, nd⟩ := hB
  unfold permB at hP
  simp only [Bool.and_eq_true, decide_eq_true_eq, List.all_eq_true, List.contains_iff_mem] at hP
  obtain ⟨⟨⟨hn, nd2⟩, hks⟩, hperm⟩ := hP
  have hl : (us ++ ws).length = (ps.take us.length ++ ks).length := by simp [hw]; omega
  obtain ⟨vs, e1, e2, e3⟩ := perm_vals nd2 hl hperm
  have ez : ps.zip us ++ ks.zip ws = (ps.take us.length ++ ks).zip (us ++ ws) := by
    rw [List.zip_append (by simp; omega), ← zip_take]
  refine ⟨vs, e1, ?_⟩
  have l3 : ps.filter (fun n => (List.lookup n (ps.zip us ++ ks.zip ws)).isNone) = [] := List.filter_eq_nil_iff.mpr fun n hn => by rw [ez, e3 n hn]; decide
  unfold bindArgs
  simp only [PySem.W.fnOf]
  simp [hp, hv, hk, hkw, ha, seqItems?]
  rw [forKw (ps := ps) (fun x s h1 h2 => by rw [if_pos h1, if_neg (by rw [h2]; decide)]) (ks.zip ws) (ps.zip us) (fun y hy => hks _ (List.of_mem_zip hy).1)
    (by
      have m1 : (ps.zip us).map (·.1) = ps.take us.length := by rw [zip_take]; exact List.map_fst_zip (by simp; omega)
      have m2 : (ks.zip ws).map (·.1) = ks := List.map_fst_zip (by omega)
      rw [m1, m2]; exact nd2)]
  have hn' : ¬ ps.length < us.length := by omega
  rw [ez] at l3 ⊢
  simp [hn', l3, e2, hp, ha]
  rfl
theorem bind_pos {x qual : Str} {params : Arguments} {body : List Stmt} {scope : Scope} {kV doc pm : Value} {an : Option Addr} {cdv ct : Value} {ps : List Str} {us : List Value} (hB : plainB params ps = true) (hl : us.length = ps.length) :
    bindArgs (PySem.W.fnOf x qual params body scope .none kV doc pm an cdv ct) ⟨us, []⟩ = pure (ps.zip us) := by
  have nd : ps.Nodup := by unfold plainB at hB; simp only [Bool.and_eq_true, decide_eq_true_eq] at hB; exact hB.2
  obtain ⟨vs, e1, e2⟩ := bind_kw (x := x) (qual := qual) (body := body) (scope := scope) (kV := kV) (doc := doc) (pm := pm) (an := an) (cdv := cdv) (ct := ct) (ks := []) (ws := []) (us := us) (perm := List.range ps.length) hB (by
    unfold permB
    simp only [Bool.and_eq_true, decide_eq_true_eq, List.all_eq_true]
    refine ⟨⟨⟨by omega, by rw [hl]; simpa using nd⟩, by simp⟩, ?_⟩
    apply List.ext_getElem?
    intro i
    simp only [List.getElem?_map, List.append_nil]
    rw [hl, List.take_length]
    rcases Nat.lt_or_ge i ps.length with z | z
    · simp [List.getElem?_range z, List.getElem?_eq_getElem z]
    · rw [List.getElem?_eq_none (by simpa using z), List.getElem?_eq_none z]; rfl) rfl
  have : vs = us := by
    have z : ∀ (m : Nat) (l : List Value), m ≤ l.length → ∀ {r}, allOpt (fun i => l[i]?) (List.range' (l.length - m) m) = some r → r = l.drop (l.length - m) := by
      intro m
      induction m with
      | zero => intro l _ r h; simp [allOpt] at h; subst h; simp
      | succ m ih =>
        intro l hm r h
        rw [List.range'_succ] at h
        simp only [allOpt] at h
        rw [List.getElem?_eq_getElem (by omega : l.length - (m + 1) < l.length)] at h
        simp only [] at h
        have e : l.length - (m + 1) + 1 = l.length - m := by omega
        rw [e] at h
        cases q : allOpt (fun i => l[i]?) (List.range' (l.length - m) m) with
        | none => rw [q] at h; cases h
        | some r' =>
          rw [q] at h; cases h
          rw [ih l (by omega) q, List.drop_eq_getElem_cons (by omega : l.length - (m + 1) < l.length), e]
    have q := z us.length us (Nat.le_refl _) (r := vs)
    simp only [Nat.sub_self, List.drop_zero] at q
    apply q
    rw [← List.range_eq_range', hl]
    simpa using e1
  rw [this] at e2
  simpa using e2
end MP
/-! MP17: from the head's facts to the law. -/
namespace MP
open PySem PySem.Spec PyProof.Rows L2
def fas (ds : List He.DefD) : List He.Fa := ds.map (fun d => .glo d.name) ++ BI.map .free
def scopeB (N P : List Str) (sc : Scope) : Bool := decide (sc.kind = .function) && !sc.isCoroutine && !sc.isGenerator && decide N.Nodup && P.all (fun x => decide (sc.names.lookup x = some .local) || decide (sc.names.lookup x = some .cell)) && sc.names.all (fun y => decide (y.2 ≠ .free))
def okDef (T : PT0) (d : Fn) (q : He.DefD) : Bool :=
  decide (q.name = d.name) && decide (q.at_ = (d.name, none)) && q.dfl.isEmpty && q.kwd.isEmpty && decide (d.np ≤ d.N.length) && plainB q.params (d.N.take d.np) && scopeB d.N (d.N.take d.np) q.scope && mtSs T ⟨d.N, q.scope, fun _ => true⟩ d.body q.body
def okDefs (T : PT0) : Nat → List Fn → List He.DefD → Bool
  | _, [], [] => true
  | i, d :: ds, q :: qs => decide (d.id = i) && okDef T d q && okDefs T (i + 1) ds qs
  | _, _, _ => false
def okKb (T : PT0) : Bool := T.kb.all fun e => match find T.prog e.1 with
  | some d => permB (d.N.take d.np) e.2.1 e.2.2.1 e.2.2.2
  | none => true
def mkG (T : PT0) (wf : Nat) (ds : List He.DefD) (K : PySem.W.Frag) (fdn : Nat → FuncData) : Gl0 :=
  { T := T, cl := fun _ => 0, fld := fun _ => T.clName 0, fa := fun i => match ds[i]? with | some q => He.fAd K q.at_ | none => 0, fdn := fdn, wf := wf }
theorem okDefs_at {T : PT0} : ∀ {ps : List Fn} {ds : List He.DefD} {i : Nat}, okDefs T i ps ds = true → ∀ {j : Nat} {d : Fn}, ps[j]? = some d → d.id = i + j ∧ ∃ q, ds[j]? = some q ∧ okDef T d q = true
  | [], [], i, h, j, d, e => by simp at e
  | [], _ :: _, i, h, j, d, e => by simp at e
  | p :: ps, [], i, h, j, d, e => by simp [okDefs] at h
  | p :: ps, q :: ds, i, h, j, d, e => by
    simp only [okDefs, Bool.and_eq_true, decide_eq_true_eq] at h
    cases j with
    | zero => simp at e; subst e; exact ⟨h.1.1, q, rfl, h.1.2⟩
    | succ j =>
      obtain ⟨h1, q', h2, h3⟩ := okDefs_at h.2 (j := j) (d := d) (by simpa using e)
      exact ⟨by omega, q', by simpa using h2, h3⟩
theorem find_at : ∀ {ps : List Fn} {i : Nat}, (∀ (j : Nat) (d : Fn), ps[j]? = some d → d.id = i + j) → ∀ {j : Nat} {d : Fn}, ps[j]? = some d → ps.find? (fun e => e.id == d.id) = some d
  | [], i, h, j, d, e => by simp at e
  | p :: ps, i, h, j, d, e => by
    have h0 := h 0 p rfl
    cases j with
    | zero => simp at e; subst e; simp
    | succ j =>
      have h1 := h (j + 1) d e
      rw [List.find?_cons]
      have : (p.id == d.id) = false := by simp; omega
      rw [this]
      exact find_at (i := i + 1) (fun j d e => by have := h (j + 1) d (by simpa using e); omega) (by simpa using e)
theorem facts {T : PT0} {wf : Nat} {ds : List He.DefD} {K : PySem.W.Frag} {h : Heap} {mg : Str → Option Value} (ok : okDefs T 0 T.prog ds = true) (okb : okKb T = true) (hne : T.prog ≠ []) (X : K.In h) (G : h.Ns mainGlobals mg) (c : He.SaysD (fas ds) ds K) :
    ∃ fdn : Nat → FuncData, (∀ d ∈ T.prog, DOk (mkG T wf ds K fdn) K d) ∧ GOk (mkG T wf ds K fdn) K mg := by
  have at_ := fun {j : Nat} {d : Fn} (e : T.prog[j]? = some d) => okDefs_at ok e
  have fnd : ∀ {d : Fn}, d ∈ T.prog → find T.prog d.id = some d := fun {d} hd => by
    obtain ⟨j, hj⟩ := List.getElem?_of_mem hd
    exact find_at (i := 0) (fun j d e => (at_ e).1) hj
  have idx : ∀ {d : Fn}, d ∈ T.prog → ∃ q, ds[d.id]? = some q ∧ okDef T d q = true := fun {d} hd => by
    obtain ⟨j, hj⟩ := List.getElem?_of_mem hd
    obtain ⟨h1, q, h2, h3⟩ := at_ hj
    have : d.id = j := by omega
    exact ⟨q, by rw [this]; exact h2, h3⟩
  have ex0 : ∃ fd : FuncData, True := by
    cases e : T.prog with
    | nil => exact absurd e hne
    | cons d r =>
      obtain ⟨q, h1, _⟩ := idx (d := d) (by rw [e]; simp)
      obtain ⟨fd, _⟩ := c.def_ _ h1
      exact ⟨fd, trivial⟩
  have ch : ∀ i : Nat, ∃ fd : FuncData, ∀ q, ds[i]? = some q → FunD K q.name q.qual q.params q.body q.scope (q.dvs K) (q.kws K) (He.fAd K q.at_) fd := fun i => by
    cases e : ds[i]? with
    | none => obtain ⟨fd, _⟩ := ex0; exact ⟨fd, fun q z => by cases z⟩
    | some q => obtain ⟨fd, F⟩ := c.def_ i e; exact ⟨fd, fun q' z => by cases z; exact F⟩
  obtain ⟨fdn, hfd⟩ := Classical.axiomOfChoice ch
  have FF : ∀ {d : Fn}, d ∈ T.prog → ∃ q, ds[d.id]? = some q ∧ okDef T d q = true ∧ FunD K q.name q.qual q.params q.body q.scope [] [] ((mkG T wf ds K fdn).fa d.id) (fdn d.id) := fun {d} hd => by
    obtain ⟨q, h1, h2⟩ := idx hd
    have F := hfd d.id q h1
    refine ⟨q, h1, h2, ?_⟩
    have h2' := h2
    unfold okDef at h2'
    simp only [Bool.and_eq_true, List.isEmpty_iff] at h2'
    have e1 : q.dvs K = [] := by unfold He.DefD.dvs; rw [h2'.1.1.1.1.1.2]; rfl
    have e2 : q.kws K = [] := by unfold He.DefD.kws; rw [h2'.1.1.1.1.2]; rfl
    rw [e1, e2] at F
    have e3 : (mkG T wf ds K fdn).fa d.id = He.fAd K q.at_ := by unfold mkG; simp only [h1]
    rw [e3]
    exact F
  have parts : ∀ {d : Fn} {q : He.DefD}, okDef T d q = true → q.name = d.name ∧ q.at_ = (d.name, none) ∧ d.np ≤ d.N.length ∧ plainB q.params (d.N.take d.np) = true ∧ scopeB d.N (d.N.take d.np) q.scope = true ∧ mtSs T ⟨d.N, q.scope, fun _ => true⟩ d.body q.body = true := fun {d q} h => by
    unfold okDef at h
    simp only [Bool.and_eq_true, decide_eq_true_eq] at h
    exact ⟨h.1.1.1.1.1.1.1, h.1.1.1.1.1.1.2, h.1.1.1.2, h.1.1.2, h.1.2, h.2⟩
  have memfa : ∀ {f : He.Fa}, f ∈ fas ds → f.ok K = true := fun {f} hf => by
    obtain ⟨j, hj⟩ := List.getElem?_of_mem hf
    exact c.fact j hj
  have bnd : ∀ {d : Fn}, d ∈ T.prog → ∀ (args : Args) (bs : List (Str × Value)), (∀ (x qual : Str) (params : Arguments) (body : List Stmt) (scope : Scope) (kV doc pm : Value) (an : Option Addr) (cdv ct : Value), plainB params (d.N.take d.np) = true → bindArgs (PySem.W.fnOf x qual params body scope .none kV doc pm an cdv ct) args = pure bs) → ∀ s, BindsTo s (fdn d.id) args bs := fun {d} hd args bs hb s => by
    obtain ⟨q, h1, h2, F⟩ := FF hd
    obtain ⟨p1, p2, p3, p4, p5, p6⟩ := parts h2
    obtain ⟨oc, od, dV, kV, doc, pm, an, cdv, ct, osl, efd, lk, hcd, hD, hK⟩ := F.ex
    rcases hD with ⟨_, rfl⟩ | ⟨e, _⟩
    · rw [efd]
      exact .of_eq (hb _ _ _ _ _ _ _ _ _ _ _ p4)
    · exact absurd rfl e
  refine ⟨fdn, fun d hd => ?_, ?_⟩
  · obtain ⟨q, h1, h2, F⟩ := FF hd
    obtain ⟨p1, p2, p3, p4, p5, p6⟩ := parts h2
    refine ⟨fnd hd, p3, _, _, _, _, _, F, ?_, p6⟩
    unfold scopeB at p5
    simp only [Bool.and_eq_true, decide_eq_true_eq, Bool.not_eq_true', List.all_eq_true, Bool.or_eq_true] at p5
    obtain ⟨⟨⟨⟨⟨s1, s2⟩, s3⟩, s4⟩, s5⟩, s6⟩ := p5
    exact ⟨s1, s2, s3, s4, by rw [List.length_take, Nat.min_eq_left p3], s5, s6⟩
  · refine ⟨fun d hd => ?_, fun d hd s us hl => ?_, fun x hx => ?_, fun e he d hf s us ws h1 h2 => ?_⟩
    · obtain ⟨q, h1, h2, F⟩ := FF hd
      obtain ⟨p1, p2, _⟩ := parts h2
      have g := He.glo_ok X G (memfa (f := .glo q.name) (List.mem_append_left _ (List.mem_map.mpr ⟨q, List.mem_of_getElem? h1, rfl⟩)))
      have e3 : (mkG T wf ds K fdn).fa d.id = He.fAd K q.at_ := by unfold mkG; simp only [h1]
      refine ⟨?_, F.kp⟩
      rw [e3, p2, ← p1, g]
      rfl
    · obtain ⟨q, h1, h2, F⟩ := FF hd
      obtain ⟨p1, p2, p3, _⟩ := parts h2
      exact bnd hd _ _ (fun x qual params body scope kV doc pm an cdv ct hp => bind_pos hp (by rw [List.length_take, Nat.min_eq_left p3]; exact hl)) s
    · exact He.free_ok X G (memfa (f := .free x) (List.mem_append_right _ (List.mem_map.mpr ⟨x, hx, rfl⟩)))
    · have hd := (find_mem hf).1
      have hk : (match find T.prog e.1 with | some d => permB (d.N.take d.np) e.2.1 e.2.2.1 e.2.2.2 | none => true) = true := List.all_eq_true.mp okb e he
      have hf : find T.prog e.1 = some d := hf
      rw [hf] at hk
      obtain ⟨q, _, h4, _⟩ := FF hd
      obtain ⟨_, _, _, p4, _⟩ := parts h4
      obtain ⟨vs, e1, _⟩ := bind_kw (x := d.name) (qual := d.name) (body := []) (scope := q.scope) (kV := .none) (doc := .none) (pm := .none) (an := none) (cdv := .none) (ct := .none) p4 (by rw [h1]; exact hk) h2
      refine ⟨vs, e1, bnd hd _ _ (fun x qual params body scope kV doc pm an cdv ct hp => ?_) s⟩
      obtain ⟨vs', e1', e2'⟩ := bind_kw (x := x) (qual := qual) (body := body) (scope := scope) (kV := kV) (doc := doc) (pm := pm) (an := an) (cdv := cdv) (ct := ct) hp (by rw [h1]; exact hk) h2
      rw [e1] at e1'; cases e1'
      exact e2'
open PySem.W in
theorem walk_mp {l : PySem.W.OpenLaw} {n k wf : Nat} {q : Program} {loose : List Str} {XP : (Str → Option Value) → Heap → Prop} {d : DefRec} (T : PT0) (ds : List He.DefD) {dl : Fn}
    (hn : l.most = some n) (hn2 : n ≤ sizeLine) (hdf : d.params.defaults = []) (hr : Room k callerA) (ok : okDefs T 0 T.prog ds = true) (okb : okKb T = true) (hdl : dl ∈ T.prog) (hname : d.name = dl.name) (hnp : dl.np = 1)
    (hev : ∀ is : List Int, is.length ≤ n → ∃ st, callN T.prog wf k dl.id [.scr is] [] = .ok (.bl true) st) :
    PySem.W.WalkO q loose XP (He.hookD 4 (fas ds) ds).says l.row.toRowW d [] (fun f vs => PySem.call f vs) := by
  refine Att.attach_call hn hdf fun w s₀ s₁ mg mb fa o pm cd doc a vs is G Y ho hd hcd hmg hobj hints hlen hg => ?_
  obtain ⟨K, KX, c⟩ := Y
  obtain ⟨fdn, D, GK⟩ := facts (wf := wf) ok okb (by intro z; rw [z] at hdl; cases hdl) KX G.T.g c
  have hfa : fa = (mkG T wf ds K fdn).fa dl.id := by
    have e := (GK.at_ dl hdl).1
    rw [← hname, hmg] at e
    cases e; rfl
  exact run_law (Γ := mkG T wf ds K fdn) KX G.T.g G.T.b G.T.builtins G.T.nolimit hg hobj hints (Nat.le_trans hlen hn2) hr (fun base _ _ => fnG_all D GK k dl hdl) hfa (GK.bind dl hdl s₁ [.ref a] hnp.symm) hnp (hev is hlen)
end MP
/-! MP18: rules of the evaluator; the laws' common helpers. -/
namespace MP
open PySem
/-! ### rules -/
section
variable {C : Nat → List W → M W} {wf : Nat}
theorem seq_nx {s : S} {ss : Ss} {sl sl' : Slots} {st st' : Store} (h : evS C wf s sl st = .ok (.nx sl') st') : evSs C wf (.cons s ss) sl st = evSs C wf ss sl' st' := by
  dsimp only [evSs]; unfold thenS; rw [h]
theorem seq_rt {s : S} {ss : Ss} {sl : Slots} {w : W} {st st' : Store} (h : evS C wf s sl st = .ok (.rt w) st') : evSs C wf (.cons s ss) sl st = .ok (.rt w) st' := by
  dsimp only [evSs]; unfold thenS; rw [h]
theorem seq_nil {sl : Slots} {st : Store} : evSs C wf .nil sl st = .ok (.nx sl) st := rfl
theorem ife_t {c : E} {a b : Ss} {sl : Slots} {st st' : Store} (h : evE C c sl st = .ok (.bl true) st') : evS C wf (.ife c a b) sl st = evSs C wf a sl st' := by
  dsimp only [evS]; unfold ofE; rw [h]
theorem ife_f {c : E} {a b : Ss} {sl : Slots} {st st' : Store} (h : evE C c sl st = .ok (.bl false) st') : evS C wf (.ife c a b) sl st = evSs C wf b sl st' := by
  dsimp only [evS]; unfold ofE; rw [h]
theorem asg_ok {t : Tg} {e : E} {sl sl' : Slots} {st st1 st' : Store} {w : W} (h : evE C e sl st = .ok w st1) (h2 : asgT C t w sl st1 = .ok sl' st') : evS C wf (.asg t e) sl st = .ok (.nx sl') st' := by
  dsimp only [evS]; unfold ofE quiet; simp only [h, h2]
theorem asgN_ok {i : Nat} {e : E} {sl : Slots} {st st1 : Store} {w : W} (h : evE C e sl st = .ok w st1) : evS C wf (.asg (.name i) e) sl st = .ok (.nx (slotSet sl i w)) st1 := asg_ok h rfl
theorem expr_ok {e : E} {sl : Slots} {st st1 : Store} {w : W} (h : evE C e sl st = .ok w st1) : evS C wf (.expr e) sl st = .ok (.nx sl) st1 := by
  dsimp only [evS]; unfold ofE; simp only [h]
theorem ret_ok {e : E} {sl : Slots} {st st1 : Store} {w : W} (h : evE C e sl st = .ok w st1) : evS C wf (.ret e) sl st = .ok (.rt w) st1 := by
  dsimp only [evS]; unfold ofE; simp only [h]
theorem while_step {c : Slots → M W} {b : Slots → MS} {n : Nat} {sl sl' : Slots} {st st1 st2 : Store} (hc : c sl st = .ok (.bl true) st1) (hb : b sl st1 = .ok (.nx sl') st2) : whileL c b (n + 1) sl st = whileL c b n sl' st2 := by
  show ofE (c sl) sl _ st = _
  unfold ofE; simp only [hc, hb]
theorem while_ret {c : Slots → M W} {b : Slots → MS} {n : Nat} {sl : Slots} {st st1 st2 : Store} {w : W} (hc : c sl st = .ok (.bl true) st1) (hb : b sl st1 = .ok (.rt w) st2) : whileL c b (n + 1) sl st = .ok (.rt w) st2 := by
  show ofE (c sl) sl _ st = _
  unfold ofE; simp only [hc, hb]
theorem while_end {c : Slots → M W} {b : Slots → MS} {n : Nat} {sl : Slots} {st st1 : Store} (hc : c sl st = .ok (.bl false) st1) : whileL c b (n + 1) sl st = .ok (.nx sl) st1 := by
  show ofE (c sl) sl _ st = _
  unfold ofE; simp only [hc]
/-- while, by an invariant with a measure -/
theorem while_inv {c : Slots → M W} {b : Slots → MS} (I : Nat → Slots → Store → Prop) (D : Slots → Store → Prop)
    (hI : ∀ m sl st, I m sl st → (∃ st1, c sl st = .ok (.bl false) st1 ∧ D sl st1) ∨ ∃ st1 sl' st2 m', c sl st = .ok (.bl true) st1 ∧ b sl st1 = .ok (.nx sl') st2 ∧ m' < m ∧ I m' sl' st2) :
    ∀ n m sl st, m < n → I m sl st → ∃ sl' st', whileL c b n sl st = .ok (.nx sl') st' ∧ D sl' st' := by
  intro n
  induction n with
  | zero => intro m sl st h; omega
  | succ n ih =>
    intro m sl st h hi
    rcases hI m sl st hi with ⟨st1, h1, h2⟩ | ⟨st1, sl', st2, m', h1, h2, h3, h4⟩
    · exact ⟨sl, st1, while_end h1, h2⟩
    · obtain ⟨sl3, st3, e, d⟩ := ih m' sl' st2 (by omega) h4
      exact ⟨sl3, st3, (while_step h1 h2).trans e, d⟩
theorem whileS {e : E} {b : Ss} {sl sl' : Slots} {st st' : Store} (h : whileL (evE C e) (evSs C wf b) wf sl st = .ok (.nx sl') st') : evS C wf (.while e b) sl st = .ok (.nx sl') st' := h
/-- for, by an invariant -/
theorem for_inv {src : Src} {g : W → Slots → M Slots} {b : Slots → MS} (I : Nat → Slots → Store → Prop)
    (hI : ∀ i sl st, i < src.len → I i sl st → ∃ x sl1 st1 sl2 st2, src.at st i = some x ∧ g x sl st = .ok sl1 st1 ∧ b sl1 st1 = .ok (.nx sl2) st2 ∧ I (i + 1) sl2 st2) (hf : ∀ sl st, I src.len sl st → src.fin st = true) :
    ∀ r i sl st, i + r = src.len → I i sl st → ∃ sl' st', forL src g b r i sl st = .ok (.nx sl') st' ∧ I src.len sl' st' := by
  intro r
  induction r with
  | zero =>
    intro i sl st h hi
    have : i = src.len := by omega
    subst this
    exact ⟨sl, st, by dsimp only [forL]; rw [if_pos (hf sl st hi)], hi⟩
  | succ r ih =>
    intro i sl st h hi
    obtain ⟨x, sl1, st1, sl2, st2, h1, h2, h3, h4⟩ := hI i sl st (by omega) hi
    obtain ⟨sl3, st3, e, d⟩ := ih (i + 1) sl2 st2 (by omega) h4
    refine ⟨sl3, st3, ?_, d⟩
    dsimp only [forL]
    unfold ofE quiet
    simp only [h1, h2, h3]
    exact e
theorem forS {t : Tg} {it : It} {b : Ss} {sl sl' : Slots} {st st1 st' : Store} {src : Src} (h : evIt C it sl st = .ok src st1) (h2 : forL src (asgT C t) (evSs C wf b) src.len 0 sl st1 = .ok (.nx sl') st') : evS C wf (.for t it b) sl st = .ok (.nx sl') st' := by
  dsimp only [evS]; unfold ofE; simp only [h]; exact h2
/-- a comprehension, by an invariant -/
theorem lc_inv {src : Src} {step : W → M (Option W)} (I : Nat → List W → Store → Prop)
    (hI : ∀ i acc st, i < src.len → I i acc st → ∃ x y st2, src.at st i = some x ∧ step x st = .ok y st2 ∧ I (i + 1) (match y with | some z => acc ++ [z] | none => acc) st2) (hf : ∀ acc st, I src.len acc st → src.fin st = true) :
    ∀ r i acc st, i + r = src.len → I i acc st → ∃ ws st', lcLoop src step r i acc st = .ok ws st' ∧ I src.len ws st' := by
  intro r
  induction r with
  | zero =>
    intro i acc st h hi
    have : i = src.len := by omega
    subst this
    exact ⟨acc, st, by dsimp only [lcLoop]; rw [if_pos (hf acc st hi)], hi⟩
  | succ r ih =>
    intro i acc st h hi
    obtain ⟨x, y, st2, h1, h2, h3⟩ := hI i acc st (by omega) hi
    obtain ⟨ws, st3, e, d⟩ := ih (i + 1) _ st2 (by omega) h3
    refine ⟨ws, st3, ?_, d⟩
    dsimp only [lcLoop]
    unfold M.bind
    simp only [h1, h2]
    cases y <;> exact e
theorem lc_ok {c : Bool} {own : List Nat} {t : Tg} {it : It} {cond : Oe} {elt : E} {sl : Slots} {st st1 st2 : Store} {src : Src} {ws : List W} (h : evIt C it sl st = .ok src st1) (hl : src.len ≤ LIM)
    (h2 : lcLoop src (fun x => stepW (asgT C t x (wipeW sl own)) (evC C cond) (evE C elt)) src.len 0 [] st1 = .ok ws st2) : evE C (.lc c own t it cond elt) sl st = mkLst c ws st2 := by
  dsimp only [evE]
  unfold M.bind quiet
  simp only [h, if_pos hl, h2]
theorem map_get {α β : Type} {f : α → β} {l : List α} {i : Nat} (h : i < l.length) : (l.map f)[i]? = some (f l[i]) := by rw [List.getElem?_map, List.getElem?_eq_getElem h]; rfl
/-- a comprehension that changes nothing, no test -/
theorem lc_map {src : Src} {step : W → M (Option W)} {st : Store} {f : Nat → W} (hI : ∀ i, i < src.len → ∃ x, src.at st i = some x ∧ step x st = .ok (some (f i)) st) (hf : src.fin st = true) : lcLoop src step src.len 0 [] st = .ok ((List.range src.len).map f) st := by
  obtain ⟨ws, st', e, h1, h2⟩ := lc_inv (src := src) (step := step) (fun i acc st' => st' = st ∧ acc = (List.range i).map f)
    (fun i acc st' hi ⟨h1, h2⟩ => by
      subst h1 h2
      obtain ⟨x, e1, e2⟩ := hI i hi
      exact ⟨x, _, _, e1, e2, rfl, by simp [List.range_succ]⟩) (fun acc st' ⟨h1, _⟩ => by rw [h1]; exact hf) src.len 0 [] st (by omega) ⟨rfl, rfl⟩
  rw [e, h1, h2]
end
/-- a call -/
theorem call_ok {P : List Fn} {wf k f : Nat} {d : Fn} {ws : List W} {st st' : Store} {w : W} (hf : find P f = some d) (hl : ws.length = d.np) (h : backR (evSs (callN P wf k) wf d.body (startW d.N.length ws) st) = .ok w st') : callN P wf (k + 1) f ws st = .ok w st' := by
  unfold callN; simp only [hf]; rw [if_pos hl]; exact h
theorem call_rt {P : List Fn} {wf k f : Nat} {d : Fn} {ws : List W} {st st' : Store} {w : W} (hf : find P f = some d) (hl : ws.length = d.np) (h : evSs (callN P wf k) wf d.body (startW d.N.length ws) st = .ok (.rt w) st') : callN P wf (k + 1) f ws st = .ok w st' :=
  call_ok hf hl (by rw [h]; rfl)
theorem call_nx {P : List Fn} {wf k f : Nat} {d : Fn} {ws : List W} {st st' : Store} {sl : Slots} (hf : find P f = some d) (hl : ws.length = d.np) (h : evSs (callN P wf k) wf d.body (startW d.N.length ws) st = .ok (.nx sl) st') : callN P wf (k + 1) f ws st = .ok .non st' :=
  call_ok hf hl (by rw [h]; rfl)
/-! ### the stream -/
def streamD (id : Nat) : Fn := ⟨id, "_law_stream", ["script"], 1, .cons (.ret (.lst true (.cons (.bi true .list (.cons (.var 0) .nil)) (.cons (.int 0) (.cons (.int 0) (.cons (.int 19) .nil)))))) .nil⟩
def drawC : E := .and (.cmp .eq (.sub (.var 0) (.int 1)) (.int 0)) (.cmp .ne (.sub (.var 0) (.int 0)) (.lst false .nil))
def drawW : Ss := .cons (.asg (.name 3) (.bi false .abs (.cons (.mt .popAt (.sub (.var 0) (.int 0)) (.cons (.int 0) .nil)) .nil))) (.cons (.asg (.sub (.var 0) (.int 3)) (.bin false .mod (.bi false .int1 (.cons (.bin false .add (.bin false .add (.bin false .mul (.sub (.var 0) (.int 3)) (.int 6151)) (.var 3)) (.int 7)) .nil)) (.int 2147483629))) (.cons (.asg (.sub (.var 0) (.int 1)) (.ife (.cmp .ge (.var 3) (.bin false .pow (.int 10) (.int 18))) (.var 3) (.int 0))) .nil))
def drawI : S := .ife (.cmp .gt (.sub (.var 0) (.int 1)) (.int 0)) (.cons (.asg (.name 4) (.bin false .mod (.bi false .int1 (.cons (.sub (.var 0) (.int 1)) .nil)) (.var 1))) (.cons (.asg (.sub (.var 0) (.int 1)) (.bin false .fdiv (.sub (.var 0) (.int 1)) (.var 1))) (.cons (.ret (.var 4)) .nil))) .nil
def drawM : S := .asg (.name 2) (.bin false .mod (.bi false .int1 (.cons (.bin false .pow (.bin false .add (.bin false .add (.sub (.var 0) (.int 3)) (.bin false .mul (.int 8191) (.sub (.var 0) (.int 2)))) (.int 50021)) (.int 5)) .nil)) (.int 2147483587))
def drawR : S := .ret (.bin false .mod (.bin false .mod (.bi false .int1 (.cons (.bin false .pow (.bin false .add (.bin false .add (.bin false .mul (.var 2) (.int 40009)) (.bin false .mul (.int 20011) (.sub (.var 0) (.int 2)))) (.int 31)) (.int 3)) .nil)) (.int 1000000009)) (.var 1))
def drawD (id : Nat) : Fn := ⟨id, "_law_draw", ["stream", "many", "mixed", "cell", "digit"], 2,
  .cons (.asg (.sub (.var 0) (.int 2)) (.bin false .add (.sub (.var 0) (.int 2)) (.int 1))) (.cons (.while drawC drawW) (.cons drawI (.cons drawM (.cons drawR .nil))))⟩
/-- a stream: the cell n, its script in the cell q; B draws are still to be had -/
structure Strm (wf : Nat) (st : Store) (n q B : Nat) : Prop where
  ex : ∃ (is : List Int) (a b c : Int), st[n]? = some (.lst [.cell q, .int a, .int b, .int c]) ∧ st[q]? = some (.lst (is.map .int)) ∧ is.length + 2 < wf ∧ 0 ≤ a ∧ 0 ≤ b ∧ b + B ≤ 2 ^ 40 ∧ 0 ≤ c ∧ c < 2 ^ 31
  ne : n ≠ q
theorem Strm.less {wf : Nat} {st : Store} {n q B B' : Nat} (h : Strm wf st n q B) (l : B' ≤ B) : Strm wf st n q B' := by
  obtain ⟨⟨is, a, b, c, h1, h2, h3, h4, h5, h6, h7⟩, ne⟩ := h
  exact ⟨⟨is, a, b, c, h1, h2, h3, h4, h5, by omega, h7⟩, ne⟩
theorem lt_of_get {α : Type} {l : List α} {i : Nat} {x : α} (h : l[i]? = some x) : i < l.length := by
  rcases Nat.lt_or_ge i l.length with z | z
  · exact z
  · rw [List.getElem?_eq_none z] at h; cases h
/-- the same but at two cells -/
structure Same2 (n q : Nat) (st st' : Store) : Prop where
  len : st'.length = st.length
  at_ : ∀ i, i ≠ n → i ≠ q → st'[i]? = st[i]?
theorem Same2.refl (n q : Nat) (st : Store) : Same2 n q st st := ⟨rfl, fun _ _ _ => rfl⟩
theorem Same2.trans {n q : Nat} {a b c : Store} (h : Same2 n q a b) (h' : Same2 n q b c) : Same2 n q a c := ⟨h'.len.trans h.len, fun i h1 h2 => (h'.at_ i h1 h2).trans (h.at_ i h1 h2)⟩
theorem Same2.setn {n q : Nat} (st : Store) (c : Cell) : Same2 n q st (st.set n c) := ⟨by simp, fun i h _ => by rw [List.getElem?_set_ne (Ne.symm h)]⟩
theorem Same2.setq {n q : Nat} (st : Store) (c : Cell) : Same2 n q st (st.set q c) := ⟨by simp, fun i _ h => by rw [List.getElem?_set_ne (Ne.symm h)]⟩
theorem allOpt_ints {st : Store} {n : Nat} (is : List Int) : allOpt (data st n) (is.map .int) = some (is.map .int) := by
  induction is with
  | nil => rfl
  | cons i is ih => simp only [List.map_cons, allOpt]; rw [ih]; cases n <;> rfl
section
variable {C : Nat → List W → M W} {wf : Nat}
theorem set_same {st : Store} {n : Nat} {c d : Cell} (h : st[n]? = some d) : (st.set n c)[n]? = some c := List.getElem?_set_self (lt_of_get h)
theorem set_other {st : Store} {n m : Nat} {c : Cell} (h : n ≠ m) : (st.set n c)[m]? = st[m]? := List.getElem?_set_ne h
theorem draw_turn {n q : Nat} {st : Store} {i : Int} {is : List Int} {b c m : Int} {x4 : Option W} {x3 : Option W} (h1 : st[n]? = some (.lst [.cell q, .int 0, .int b, .int c])) (h2 : st[q]? = some (.lst ((i :: is).map .int))) (hn : n ≠ q) (hc : 0 ≤ c) (hc2 : c < 2 ^ 31) :
    ∃ a' c', evSs C wf drawW [some (.cell n), some (.int m), none, x3, x4] st = .ok (.nx [some (.cell n), some (.int m), none, some (.int (if i < 0 then -i else i)), x4]) ((st.set q (.lst (is.map .int))).set n (.lst [.cell q, .int a', .int b, .int c'])) ∧ 0 ≤ a' ∧ 0 ≤ c' ∧ c' < 2 ^ 31 := by
  generalize hu : (if i < 0 then -i else i) = u
  have hu0 : 0 ≤ u := by rw [← hu]; split <;> omega
  have m1 : mulOk c 6151 = true := by unfold mulOk; simp
  have hp : (10 : Int) ^ 18 = 1000000000000000000 := by decide
  refine ⟨if 1000000000000000000 ≤ u then u else 0, (c * 6151 + u + 7) % 2147483629, ?_, by split <;> omega, Int.emod_nonneg _ (by decide), by have := Int.emod_lt_of_pos (c * 6151 + u + 7) (show (0 : Int) < 2147483629 by decide); omega⟩
  unfold drawW
  have e1 : evE C (.bi false .abs (.cons (.mt .popAt (.sub (.var 0) (.int 0)) (.cons (.int 0) .nil)) .nil)) [some (.cell n), some (.int m), none, x3, x4] st = .ok (.int u) (st.set q (.lst (is.map .int))) := by
    simp [ofE, evE, evEs, evSs, evS, evO, evC, M.bind, M.ret, M.opt, M.fail, cmpW, eqW, asInt, asBl, asStr, asTup, asLst, asSeq, asDct, thenS, binW, iBin, fin, mkLst, quiet, asgT, asgTs, slotSet, Tgs.len, primW, mthW, mthTy, isTy, isTys, subW, setW, allOpt, startW, h1, h2, L2.ixN, L2.atI, hu]
  rw [seq_nx (asgN_ok e1)]
  have h3 : (st.set q (.lst (is.map .int)))[n]? = some (.lst [.cell q, .int 0, .int b, .int c]) := by rw [set_other (Ne.symm hn)]; exact h1
  generalize st.set q (.lst (is.map .int)) = st1 at h3 ⊢
  have e2 : evS C wf (.asg (.sub (.var 0) (.int 3)) (.bin false .mod (.bi false .int1 (.cons (.bin false .add (.bin false .add (.bin false .mul (.sub (.var 0) (.int 3)) (.int 6151)) (.var 3)) (.int 7)) .nil)) (.int 2147483629))) (slotSet [some (.cell n), some (.int m), none, x3, x4] 3 (.int u)) st1 = .ok (.nx [some (.cell n), some (.int m), none, some (.int u), x4]) (st1.set n (.lst [.cell q, .int 0, .int b, .int ((c * 6151 + u + 7) % 2147483629)])) := by
    simp [ofE, evE, evEs, evSs, evS, evO, evC, M.bind, M.ret, M.opt, M.fail, cmpW, eqW, asInt, asBl, asStr, asTup, asLst, asSeq, asDct, thenS, binW, iBin, fin, mkLst, quiet, asgT, asgTs, slotSet, Tgs.len, primW, mthW, mthTy, isTy, isTys, subW, setW, allOpt, startW, h3, L2.ixN, L2.atI, m1]
  rw [seq_nx e2]
  generalize (c * 6151 + u + 7) % 2147483629 = c'
  have h4 : (st1.set n (.lst [.cell q, .int 0, .int b, .int c']))[n]? = some (.lst [.cell q, .int 0, .int b, .int c']) := set_same h3
  have h5 : st1.set n (.lst [.cell q, .int (if 1000000000000000000 ≤ u then u else 0), .int b, .int c']) = (st1.set n (.lst [.cell q, .int 0, .int b, .int c'])).set n (.lst [.cell q, .int (if 1000000000000000000 ≤ u then u else 0), .int b, .int c']) := by rw [List.set_set]
  rw [h5]
  generalize st1.set n (.lst [.cell q, .int 0, .int b, .int c']) = st2 at h4 ⊢
  have e3 : evS C wf (.asg (.sub (.var 0) (.int 1)) (.ife (.cmp .ge (.var 3) (.bin false .pow (.int 10) (.int 18))) (.var 3) (.int 0))) [some (.cell n), some (.int m), none, some (.int u), x4] st2 = .ok (.nx [some (.cell n), some (.int m), none, some (.int u), x4]) (st2.set n (.lst [.cell q, .int (if 1000000000000000000 ≤ u then u else 0), .int b, .int c'])) := by
    by_cases hb : (1000000000000000000 : Int) ≤ u
    · simp [ofE, evE, evEs, evSs, evS, evO, evC, M.bind, M.ret, M.opt, M.fail, cmpW, eqW, asInt, asBl, asStr, asTup, asLst, asSeq, asDct, thenS, binW, iBin, fin, mkLst, quiet, asgT, asgTs, slotSet, Tgs.len, primW, mthW, mthTy, isTy, isTys, subW, setW, allOpt, startW, h4, L2.ixN, L2.atI, hp, hb]
    · simp [ofE, evE, evEs, evSs, evS, evO, evC, M.bind, M.ret, M.opt, M.fail, cmpW, eqW, asInt, asBl, asStr, asTup, asLst, asSeq, asDct, thenS, binW, iBin, fin, mkLst, quiet, asgT, asgTs, slotSet, Tgs.len, primW, mthW, mthTy, isTy, isTys, subW, setW, allOpt, startW, h4, L2.ixN, L2.atI, hp, hb]
  rw [seq_nx e3]
  rfl
theorem depth_ints (is : List Int) : PyData.depthAll (is.map .int) = 0 := by
  induction is with
  | nil => rfl
  | cons i is ih => simp only [List.map_cons, PyData.depthAll, PyData.depth, ih]; rfl
theorem lay_ints (is : List Int) : PyData.canLayAll0 (is.map .int) = true := by
  induction is with
  | nil => rfl
  | cons i is ih => simp only [List.map_cons, PyData.canLayAll0, PyData.canLay0, ih]; rfl
theorem shaped_ints (is : List Int) : PySem.SeqAt.shaped (.list (is.map .int)) = true := by
  unfold PySem.SeqAt.shaped
  simp only [PyData.canLay0, lay_ints, PyData.depth, depth_ints]
  decide
theorem eqW_nil {st : Store} {q : Nat} {is : List Int} (h : st[q]? = some (.lst (is.map .int))) : eqW st (.cell q) (.lst []) = some is.isEmpty := by
  have e : data st DEPTH (.cell q) = some (.list (is.map .int)) := by
    show (match st[q]? with | some (.lst ws) => (allOpt (data st 39) ws).map PyData.list | some (.dead (.lst ws)) => (allOpt (data st 39) ws).map PyData.list | _ => none) = _
    rw [h]
    simp only [allOpt_ints, Option.map_some]
  have e2 : data st DEPTH (.lst []) = some (.list []) := rfl
  show ((data st DEPTH (.cell q)).bind fun d => (data st DEPTH (.lst [])).bind fun e => if PySem.SeqAt.shaped d && PySem.SeqAt.shaped e then some (PyData.eqv d e) else none) = _
  rw [e, e2]
  simp only [Option.bind_some, shaped_ints, show PySem.SeqAt.shaped (.list []) = true from shaped_ints []]
  cases is <;> rfl
theorem drawC_ok {n q : Nat} {st : Store} {is : List Int} {a b c m : Int} {x2 x3 x4 : Option W} (h1 : st[n]? = some (.lst [.cell q, .int a, .int b, .int c])) (h2 : st[q]? = some (.lst (is.map .int))) :
    evE C drawC [some (.cell n), some (.int m), x2, x3, x4] st = .ok (.bl (decide (a = 0) && !is.isEmpty)) st := by
  have e0 : evE C (.cmp .eq (.sub (.var 0) (.int 1)) (.int 0)) [some (.cell n), some (.int m), x2, x3, x4] st = .ok (.bl (decide (a = 0))) st := by
    simp [ofE, evE, evEs, evSs, evS, evO, evC, M.bind, M.ret, M.opt, M.fail, cmpW, eqW, asInt, asBl, asStr, asTup, asLst, asSeq, asDct, thenS, binW, iBin, fin, mkLst, quiet, asgT, asgTs, slotSet, Tgs.len, primW, mthW, mthTy, isTy, isTys, subW, setW, allOpt, startW, h1, L2.ixN, L2.atI]
  have e1 : evE C (.sub (.var 0) (.int 0)) [some (.cell n), some (.int m), x2, x3, x4] st = .ok (.cell q) st := by
    simp [ofE, evE, evEs, evSs, evS, evO, evC, M.bind, M.ret, M.opt, M.fail, cmpW, eqW, asInt, asBl, asStr, asTup, asLst, asSeq, asDct, thenS, binW, iBin, fin, mkLst, quiet, asgT, asgTs, slotSet, Tgs.len, primW, mthW, mthTy, isTy, isTys, subW, setW, allOpt, startW, h1, L2.ixN, L2.atI]
  have e2 : evE C (.cmp .ne (.sub (.var 0) (.int 0)) (.lst false .nil)) [some (.cell n), some (.int m), x2, x3, x4] st = .ok (.bl (!is.isEmpty)) st := by
    show M.bind _ _ st = _
    unfold M.bind
    simp only [e1]
    show M.opt ((cmpW st .ne (.cell q) (.lst [])).map W.bl) st = _
    unfold cmpW
    rw [eqW_nil h2]
    rfl
  show M.bind _ _ st = _
  unfold M.bind
  simp only [e0]
  by_cases ha : a = 0
  · simp only [ha, decide_true, Bool.true_and]; exact e2
  · simp only [ha, decide_false, Bool.false_and]; rfl
theorem draw_loop {n q : Nat} {st : Store} {is : List Int} {a b c m : Int} (h1 : st[n]? = some (.lst [.cell q, .int a, .int b, .int c])) (h2 : st[q]? = some (.lst (is.map .int))) (hn : n ≠ q) (ha : 0 ≤ a) (hc : 0 ≤ c) (hc2 : c < 2 ^ 31) (hl : is.length + 1 < wf) :
    ∃ (x3 : Option W) (st' : Store) (is' : List Int) (a' c' : Int), evS C wf (.while drawC drawW) [some (.cell n), some (.int m), none, none, none] st = .ok (.nx [some (.cell n), some (.int m), none, x3, none]) st' ∧ Same2 n q st st' ∧ st'[n]? = some (.lst [.cell q, .int a', .int b, .int c']) ∧ st'[q]? = some (.lst (is'.map .int)) ∧ is'.length ≤ is.length ∧ 0 ≤ a' ∧ 0 ≤ c' ∧ c' < 2 ^ 31 := by
  obtain ⟨sl', st', e, x3, is', a', c', rfl, d⟩ := while_inv (c := evE C drawC) (b := evSs C wf drawW)
    (fun k sl st' => ∃ (x3 : Option W) (is' : List Int) (a' c' : Int), sl = [some (.cell n), some (.int m), none, x3, none] ∧ Same2 n q st st' ∧ st'[n]? = some (.lst [.cell q, .int a', .int b, .int c']) ∧ st'[q]? = some (.lst (is'.map .int)) ∧ is'.length ≤ is.length ∧ is'.length = k ∧ 0 ≤ a' ∧ 0 ≤ c' ∧ c' < 2 ^ 31)
    (fun sl st' => ∃ (x3 : Option W) (is' : List Int) (a' c' : Int), sl = [some (.cell n), some (.int m), none, x3, none] ∧ Same2 n q st st' ∧ st'[n]? = some (.lst [.cell q, .int a', .int b, .int c']) ∧ st'[q]? = some (.lst (is'.map .int)) ∧ is'.length ≤ is.length ∧ 0 ≤ a' ∧ 0 ≤ c' ∧ c' < 2 ^ 31)
    (fun k sl st1 ⟨x3, is', a', c', e, s, g1, g2, l1, l2, k1, k2, k3⟩ => by
      subst e
      have ec := drawC_ok (C := C) (m := m) (x2 := none) (x3 := x3) (x4 := none) g1 g2
      cases hd : (decide (a' = 0) && !is'.isEmpty) with
      | false => rw [hd] at ec; exact .inl ⟨st1, ec, x3, is', a', c', rfl, s, g1, g2, l1, k1, k2, k3⟩
      | true =>
        rw [hd] at ec
        obtain ⟨d1, d2⟩ := Bool.and_eq_true_iff.mp hd
        have d1 := of_decide_eq_true d1
        subst d1
        cases is' with
        | nil => simp at d2
        | cons i is' =>
          obtain ⟨a2, c2, e2, r1, r2, r3⟩ := draw_turn (C := C) (wf := wf) (m := m) (x4 := none) (x3 := x3) g1 g2 hn k2 k3
          refine .inr ⟨st1, _, _, is'.length, ec, e2, by simp at l2; omega, _, is', a2, c2, rfl, (s.trans (Same2.setq _ _)).trans (Same2.setn _ _), set_same (by rw [set_other (Ne.symm hn)]; exact g1), by rw [set_other hn]; exact set_same g2, by simp at l1; omega, rfl, r1, r2, r3⟩)
    wf is.length _ st (by omega) ⟨none, is, a, c, rfl, Same2.refl _ _ _, h1, h2, Nat.le_refl _, rfl, ha, hc, hc2⟩
  exact ⟨x3, st', is', a', c', whileS e, d⟩
theorem draw_ok {n q B : Nat} {st : Store} {m : Int} (h : Strm wf st n q (B + 1)) (hm : 0 < m) (hm2 : m < 2 ^ 64) :
    ∃ (r : Int) (st' : Store), evSs C wf (drawD 0).body [some (.cell n), some (.int m), none, none, none] st = .ok (.rt (.int r)) st' ∧ 0 ≤ r ∧ r < m ∧ Strm wf st' n q B ∧ Same2 n q st st' := by
  obtain ⟨⟨is, a, b, c, h1, h2, h3, h4, h5, h6, h7, h8⟩, hn⟩ := h
  unfold drawD
  have e1 : evS C wf (.asg (.sub (.var 0) (.int 2)) (.bin false .add (.sub (.var 0) (.int 2)) (.int 1))) [some (.cell n), some (.int m), none, none, none] st = .ok (.nx [some (.cell n), some (.int m), none, none, none]) (st.set n (.lst [.cell q, .int a, .int (b + 1), .int c])) := by
    simp [ofE, evE, evEs, evSs, evS, evO, evC, M.bind, M.ret, M.opt, M.fail, cmpW, eqW, asInt, asBl, asStr, asTup, asLst, asSeq, asDct, thenS, binW, iBin, fin, mkLst, quiet, asgT, asgTs, slotSet, Tgs.len, primW, mthW, mthTy, isTy, isTys, subW, setW, allOpt, startW, h1, L2.ixN, L2.atI]
  simp only []
  rw [seq_nx e1]
  have g1 : (st.set n (.lst [.cell q, .int a, .int (b + 1), .int c]))[n]? = some (.lst [.cell q, .int a, .int (b + 1), .int c]) := set_same h1
  have g2 : (st.set n (.lst [.cell q, .int a, .int (b + 1), .int c]))[q]? = some (.lst (is.map .int)) := by rw [set_other hn]; exact h2
  have s1 : Same2 n q st (st.set n (.lst [.cell q, .int a, .int (b + 1), .int c])) := Same2.setn _ _
  generalize st.set n (.lst [.cell q, .int a, .int (b + 1), .int c]) = st1 at g1 g2 s1 ⊢
  obtain ⟨x3, st2, is', a', c', e2, s2, k1, k2, k3, k4, k5, k6⟩ := draw_loop (C := C) (wf := wf) (m := m) g1 g2 hn h4 h7 h8 (by omega)
  rw [seq_nx e2]
  have s3 := s1.trans s2
  have ml : m.natAbs.log2 < 9000 := by
    have : m.natAbs.log2 < 64 := (Nat.log2_lt (by omega)).mpr (by omega)
    omega
  by_cases hpos : 0 < a'
  · have e3 : evE C (.cmp .gt (.sub (.var 0) (.int 1)) (.int 0)) [some (.cell n), some (.int m), none, x3, none] st2 = .ok (.bl true) st2 := by
      simp [ofE, evE, evEs, evSs, evS, evO, evC, M.bind, M.ret, M.opt, M.fail, cmpW, eqW, asInt, asBl, asStr, asTup, asLst, asSeq, asDct, thenS, binW, iBin, fin, mkLst, quiet, asgT, asgTs, slotSet, Tgs.len, primW, mthW, mthTy, isTy, isTys, subW, setW, allOpt, startW, k1, L2.ixN, L2.atI, hpos]
    have e4 : evE C (.bin false .mod (.bi false .int1 (.cons (.sub (.var 0) (.int 1)) .nil)) (.var 1)) [some (.cell n), some (.int m), none, x3, none] st2 = .ok (.int (a' % m)) st2 := by
      simp [ofE, evE, evEs, evSs, evS, evO, evC, M.bind, M.ret, M.opt, M.fail, cmpW, eqW, asInt, asBl, asStr, asTup, asLst, asSeq, asDct, thenS, binW, iBin, fin, mkLst, quiet, asgT, asgTs, slotSet, Tgs.len, primW, mthW, mthTy, isTy, isTys, subW, setW, allOpt, startW, k1, L2.ixN, L2.atI, hm]
    have e5 : evS C wf (.asg (.sub (.var 0) (.int 1)) (.bin false .fdiv (.sub (.var 0) (.int 1)) (.var 1))) [some (.cell n), some (.int m), none, x3, some (.int (a' % m))] st2 = .ok (.nx [some (.cell n), some (.int m), none, x3, some (.int (a' % m))]) (st2.set n (.lst [.cell q, .int (a' / m), .int (b + 1), .int c'])) := by
      simp [ofE, evE, evEs, evSs, evS, evO, evC, M.bind, M.ret, M.opt, M.fail, cmpW, eqW, asInt, asBl, asStr, asTup, asLst, asSeq, asDct, thenS, binW, iBin, fin, mkLst, quiet, asgT, asgTs, slotSet, Tgs.len, primW, mthW, mthTy, isTy, isTys, subW, setW, allOpt, startW, k1, L2.ixN, L2.atI, hm, ml]
    have e6 : evS C wf drawI [some (.cell n), some (.int m), none, x3, none] st2 = .ok (.rt (.int (a' % m))) (st2.set n (.lst [.cell q, .int (a' / m), .int (b + 1), .int c'])) := by
      unfold drawI
      rw [ife_t e3, seq_nx (asgN_ok e4)]
      show evSs C wf _ [some (.cell n), some (.int m), none, x3, some (.int (a' % m))] st2 = _
      rw [seq_nx e5]
      exact seq_rt (ret_ok rfl)
    refine ⟨a' % m, _, seq_rt e6, Int.emod_nonneg _ (by omega), Int.emod_lt_of_pos _ hm, ⟨⟨is', a' / m, b + 1, c', set_same k1, by rw [set_other hn]; exact k2, by omega, Int.ediv_nonneg k4 (by omega), by omega, by omega, k5, k6⟩, hn⟩, s3.trans (Same2.setn _ _)⟩
  · have e3 : evE C (.cmp .gt (.sub (.var 0) (.int 1)) (.int 0)) [some (.cell n), some (.int m), none, x3, none] st2 = .ok (.bl false) st2 := by
      simp [ofE, evE, evEs, evSs, evS, evO, evC, M.bind, M.ret, M.opt, M.fail, cmpW, eqW, asInt, asBl, asStr, asTup, asLst, asSeq, asDct, thenS, binW, iBin, fin, mkLst, quiet, asgT, asgTs, slotSet, Tgs.len, primW, mthW, mthTy, isTy, isTys, subW, setW, allOpt, startW, k1, L2.ixN, L2.atI, hpos]
    have e6 : evS C wf drawI [some (.cell n), some (.int m), none, x3, none] st2 = .ok (.nx [some (.cell n), some (.int m), none, x3, none]) st2 := by
      unfold drawI
      rw [ife_f e3]; rfl
    rw [seq_nx e6]
    have p1 : (c' + 8191 * (b + 1) + 50021).natAbs < 2 ^ 64 := by omega
    have m1 : mulOk 8191 (b + 1) = true := by unfold mulOk; simp
    have e7 : evE C (.bin false .mod (.bi false .int1 (.cons (.bin false .pow (.bin false .add (.bin false .add (.sub (.var 0) (.int 3)) (.bin false .mul (.int 8191) (.sub (.var 0) (.int 2)))) (.int 50021)) (.int 5)) .nil)) (.int 2147483587)) [some (.cell n), some (.int m), none, x3, none] st2 = .ok (.int ((c' + 8191 * (b + 1) + 50021) ^ 5 % 2147483587)) st2 := by
      simp [ofE, evE, evEs, evSs, evS, evO, evC, M.bind, M.ret, M.opt, M.fail, cmpW, eqW, asInt, asBl, asStr, asTup, asLst, asSeq, asDct, thenS, binW, iBin, fin, mkLst, quiet, asgT, asgTs, slotSet, Tgs.len, primW, mthW, mthTy, isTy, isTys, subW, setW, allOpt, startW, k1, L2.ixN, L2.atI, m1, p1]
    unfold drawM
    rw [seq_nx (asgN_ok e7)]
    generalize hx : (c' + 8191 * (b + 1) + 50021) ^ 5 % 2147483587 = x
    have x1 : 0 ≤ x := by rw [← hx]; exact Int.emod_nonneg _ (by decide)
    have x2 : x < 2147483587 := by rw [← hx]; exact Int.emod_lt_of_pos _ (by decide)
    have p2 : (x * 40009 + 20011 * (b + 1) + 31).natAbs < 2 ^ 64 := by omega
    have m2 : mulOk x 40009 = true := by unfold mulOk; simp
    have m3 : mulOk 20011 (b + 1) = true := by unfold mulOk; simp
    have e8 : evE C (.bin false .mod (.bin false .mod (.bi false .int1 (.cons (.bin false .pow (.bin false .add (.bin false .add (.bin false .mul (.var 2) (.int 40009)) (.bin false .mul (.int 20011) (.sub (.var 0) (.int 2)))) (.int 31)) (.int 3)) .nil)) (.int 1000000009)) (.var 1)) (slotSet [some (.cell n), some (.int m), none, x3, none] 2 (.int x)) st2 = .ok (.int ((x * 40009 + 20011 * (b + 1) + 31) ^ 3 % 1000000009 % m)) st2 := by
      simp [ofE, evE, evEs, evSs, evS, evO, evC, M.bind, M.ret, M.opt, M.fail, cmpW, eqW, asInt, asBl, asStr, asTup, asLst, asSeq, asDct, thenS, binW, iBin, fin, mkLst, quiet, asgT, asgTs, slotSet, Tgs.len, primW, mthW, mthTy, isTy, isTys, subW, setW, allOpt, startW, k1, L2.ixN, L2.atI, m2, m3, p2, hm]
    refine ⟨_, st2, seq_rt (ret_ok e8), Int.emod_nonneg _ (by omega), Int.emod_lt_of_pos _ hm, ⟨⟨is', a', b + 1, c', k1, k2, by omega, k4, by omega, by omega, k5, k6⟩, hn⟩, s3⟩
end
end MP
/-! MP19: the laws' common helpers. -/
namespace MP
open PySem
section
variable {P : List Fn} {wf : Nat}
theorem draw_call {k id n q B : Nat} {st : Store} {m : Int} (hf : find P id = some (drawD id)) (h : Strm wf st n q (B + 1)) (hm : 0 < m) (hm2 : m < 2 ^ 64) :
    ∃ (r : Int) (st' : Store), callN P wf (k + 1) id [.cell n, .int m] st = .ok (.int r) st' ∧ 0 ≤ r ∧ r < m ∧ Strm wf st' n q B ∧ Same2 n q st st' := by
  obtain ⟨r, st', e, h1, h2, h3, h4⟩ := draw_ok (C := callN P wf k) h hm hm2
  exact ⟨r, st', call_rt hf rfl e, h1, h2, h3, h4⟩
/-- a cell that a value may be, and what must stay for it -/
def keepsW (st st' : Store) : W → Prop
  | .cell c => st'[c]? = st[c]?
  | _ => True
theorem keepsW.refl (st : Store) (w : W) : keepsW st st w := by cases w <;> first | rfl | trivial
theorem keepsW.trans {a b c : Store} {w : W} (h : keepsW a b w) (h' : keepsW b c w) : keepsW a c w := by
  cases w <;> first | trivial | exact Eq.trans h' h
theorem asSeq_keeps {st st' : Store} {w : W} {ws : List W} (h : asSeq st w = some ws) (hk : keepsW st st' w) : asSeq st' w = some ws := by
  cases w with
  | cell c =>
    have hk : st'[c]? = st[c]? := hk
    simp only [asSeq, asLst] at h ⊢
    rw [hk]; exact h
  | _ => exact h
theorem src1_of {st : Store} {w : W} {ws : List W} (h : asSeq st w = some ws) : ∃ s, src1 st w = some s ∧ s.len = ws.length ∧ ∀ st', keepsW st st' w → (∀ i, s.at st' i = ws[i]?) ∧ s.fin st' = true := by
  cases w with
  | cell c =>
    simp only [asSeq, asLst] at h
    cases e : st[c]? with
    | none => rw [e] at h; cases h
    | some d =>
      rw [e] at h
      cases d with
      | lst xs =>
        cases h
        refine ⟨.live c ws.length, by simp only [src1, e], rfl, fun st' hk => ?_⟩
        have hk : st'[c]? = st[c]? := hk
        refine ⟨fun i => ?_, ?_⟩
        · simp only [Src1.at, hk, e, if_true]
        · simp only [Src1.fin, hk, e, decide_true]
      | dct _ _ => cases h
      | dead x =>
        cases x with
        | lst xs => cases h; exact ⟨.vals ws, by simp only [src1, e], rfl, fun st' hk => ⟨fun i => rfl, rfl⟩⟩
        | _ => cases h
  | lst xs => cases h; exact ⟨.vals ws, rfl, rfl, fun st' hk => ⟨fun i => rfl, rfl⟩⟩
  | tup xs => cases h; exact ⟨.vals ws, rfl, rfl, fun st' hk => ⟨fun i => rfl, rfl⟩⟩
  | scr ns => cases h; exact ⟨.vals (ns.map .int), rfl, rfl, fun st' hk => ⟨fun i => rfl, rfl⟩⟩
  | _ => cases h
/-! ### the same -/
def sameE (id : Nat) : E := .lc false [2, 3] (.tup (.cons (.name 2) (.cons (.name 3) .nil))) (.zip (.var 0) (.var 1)) .none (.call id (.cons (.var 2) (.cons (.var 3) .nil)) [])
def sameL (id : Nat) : Ss := .cons (.ife (.or (.cmp .ne (.isi .list (.var 0)) (.isi .list (.var 1))) (.cmp .ne (.isi .tuple (.var 0)) (.isi .tuple (.var 1)))) (.cons (.ret (.bl false)) .nil) .nil)
  (.cons (.ret (.and (.cmp .eq (.bi false .len (.cons (.var 0) .nil)) (.bi false .len (.cons (.var 1) .nil))) (.bi false .all (.cons (sameE id) .nil)))) .nil)
def sameD (id : Nat) : Fn := ⟨id, "_law_same", ["found", "due", "mine", "theirs"], 2,
  .cons (.ife (.isiT [.list, .tuple] (.var 1)) (sameL id) .nil)
  (.cons (.ife (.isi .dict (.var 1)) (.cons .never .nil) .nil)
  (.cons (.ife (.or (.isi .bool (.var 1)) (.isi .bool (.var 0))) (.cons (.ret (.and (.isi .bool (.var 1)) (.and (.isi .bool (.var 0)) (.cmp .eq (.var 0) (.var 1))))) .nil) .nil)
  (.cons (.ife (.or (.cmp .isn (.var 1) .non) (.cmp .isn (.var 0) .non)) (.cons (.ret (.and (.cmp .isn (.var 1) .non) (.cmp .isn (.var 0) .non))) .nil) .nil)
  (.cons (.ife (.or (.cmp .ne (.isi .int (.var 1)) (.isi .int (.var 0))) (.cmp .ne (.isi .str (.var 1)) (.isi .str (.var 0)))) (.cons (.ret (.bl false)) .nil) .nil)
  (.cons (.ret (.and (.not (.isiT [.list, .tuple, .dict] (.var 0))) (.cmp .eq (.var 0) (.var 1)))) .nil)))))⟩
mutual
/-- no list longer than a million, no dict -/
def smallD : PyData → Bool
  | .list ds => decide (ds.length ≤ LIM) && smallDs ds
  | .tuple ds => decide (ds.length ≤ LIM) && smallDs ds
  | .dict _ => false
  | _ => true
def smallDs : List PyData → Bool
  | [] => true
  | d :: ds => smallD d && smallDs ds
end
theorem smallDs_at {ds : List PyData} (h : smallDs ds = true) {i : Nat} {d : PyData} (e : ds[i]? = some d) : smallD d = true := by
  induction ds generalizing i with
  | nil => simp at e
  | cons x xs ih =>
    simp only [smallDs, Bool.and_eq_true] at h
    cases i with
    | zero => simp at e; subst e; exact h.1
    | succ i => exact ih h.2 (by simpa using e)
theorem allOpt_at {α β : Type} {f : α → Option β} : ∀ {l : List α} {r : List β}, allOpt f l = some r → ∀ {i : Nat} {b : β}, r[i]? = some b → ∃ a, l[i]? = some a ∧ f a = some b
  | [], r, h, i, b, e => by simp [allOpt] at h; subst h; simp at e
  | a :: l, r, h, i, b, e => by
    simp only [allOpt] at h
    cases e1 : f a with
    | none => rw [e1] at h; cases h
    | some x =>
      rw [e1] at h
      cases e2 : allOpt f l with
      | none => rw [e2] at h; cases h
      | some bs =>
        rw [e2] at h; cases h
        cases i with
        | zero => simp at e; subst e; exact ⟨a, rfl, e1⟩
        | succ i => exact allOpt_at e2 (by simpa using e)
/-- what stands there, by its data -/
theorem data_seq {st : Store} {n : Nat} {w : W} {d : PyData} (h : data st n w = some d) :
    (∃ ds ws m, d = .list ds ∧ n = m + 1 ∧ asLst st w = some ws ∧ asSeq st w = some ws ∧ isTupW w = false ∧ isTy st .list w = some true ∧ isTy st .tuple w = some false ∧ allOpt (data st m) ws = some ds) ∨
    (∃ ds ws m, d = .tuple ds ∧ n = m + 1 ∧ w = .tup ws ∧ allOpt (data st m) ws = some ds) ∨
    (w = .non ∧ d = .none) ∨ (∃ b, w = .bl b ∧ d = .bool b) ∨ (∃ i, w = .int i ∧ d = .int i) ∨ (∃ s, w = .str s ∧ d = .str s) := by
  cases w with
  | non => cases n <;> (cases h; exact .inr (.inr (.inl ⟨rfl, rfl⟩)))
  | bl b => cases n <;> (cases h; exact .inr (.inr (.inr (.inl ⟨b, rfl, rfl⟩))))
  | int i => cases n <;> (cases h; exact .inr (.inr (.inr (.inr (.inl ⟨i, rfl, rfl⟩)))))
  | str s => cases n <;> (cases h; exact .inr (.inr (.inr (.inr (.inr ⟨s, rfl, rfl⟩)))))
  | lst ws =>
    cases n with
    | zero => cases h
    | succ m =>
      have h : (allOpt (data st m) ws).map PyData.list = some d := h
      obtain ⟨ds, e, rfl⟩ := Option.map_eq_some_iff.mp h
      exact .inl ⟨ds, ws, m, rfl, rfl, rfl, rfl, rfl, rfl, rfl, e⟩
  | tup ws =>
    cases n with
    | zero => cases h
    | succ m =>
      have h : (allOpt (data st m) ws).map PyData.tuple = some d := h
      obtain ⟨ds, e, rfl⟩ := Option.map_eq_some_iff.mp h
      exact .inr (.inl ⟨ds, ws, m, rfl, rfl, rfl, e⟩)
  | dct _ _ => cases n <;> cases h
  | scr _ => cases n <;> cases h
  | cell c =>
    cases n with
    | zero => cases h
    | succ m =>
      simp only [data] at h
      cases e : st[c]? with
      | none => rw [e] at h; cases h
      | some x =>
        rw [e] at h
        cases x with
        | lst ws =>
          obtain ⟨ds, e2, rfl⟩ := Option.map_eq_some_iff.mp h
          exact .inl ⟨ds, ws, m, rfl, rfl, by simp only [asLst, e], by simp only [asSeq, asLst, e], rfl, by simp only [isTy, e], by simp only [isTy, e], e2⟩
        | dct _ _ => cases h
        | dead y =>
          cases y with
          | lst ws =>
            obtain ⟨ds, e2, rfl⟩ := Option.map_eq_some_iff.mp h
            exact .inl ⟨ds, ws, m, rfl, rfl, by simp only [asLst, e], by simp only [asSeq, asLst, e], rfl, by simp only [isTy, e], by simp only [isTy, e], e2⟩
          | _ => cases h
theorem len_prim {st : Store} {w : W} {ws : List W} (h : asSeq st w = some ws) : primW st .len [w] = some (.int ws.length) := by
  cases w <;> first | (cases h; done) | (simp only [primW, h])
theorem same_zip {fid k : Nat} {st : Store} {w u : W} {ws us : List W} (h1 : asSeq st w = some ws) (h2 : asSeq st u = some us) (hl : ws.length = us.length) (hlim : ws.length ≤ LIM) (ht : isTupW w = isTupW u)
    (ih : ∀ (i : Nat) (x y : W), ws[i]? = some x → us[i]? = some y → callN P wf k fid [x, y] st = .ok (.bl true) st) (x2 x3 : Option W) :
    evE (callN P wf k) (.bi false .all (.cons (sameE fid) .nil)) [some w, some u, x2, x3] st = .ok (.bl true) st := by
  obtain ⟨s, e1, l1, g1⟩ := src1_of h1
  obtain ⟨t, e2, l2, g2⟩ := src1_of h2
  obtain ⟨a1, f1⟩ := g1 st (keepsW.refl st w)
  obtain ⟨a2, f2⟩ := g2 st (keepsW.refl st u)
  have eit : evIt (callN P wf k) (.zip (.var 0) (.var 1)) [some w, some u, x2, x3] st = .ok (.zip s t) st := by
    simp [evIt, ofE, evE, evEs, evSs, evS, evO, evC, M.bind, M.ret, M.opt, M.fail, cmpW, eqW, asInt, asBl, asStr, asTup, asLst, asSeq, asDct, thenS, binW, iBin, fin, mkLst, quiet, asgT, asgTs, slotSet, Tgs.len, primW, mthW, mthTy, isTy, isTys, subW, setW, allOpt, startW, e1, e2, ht]
  have hlen : (Src.zip s t).len = ws.length := by simp only [Src.len, l1, l2, hl, Nat.min_self]
  have hloop := lc_map (src := .zip s t) (st := st) (f := fun _ => W.bl true) (step := fun x => stepW (asgT (callN P wf k) (.tup (.cons (.name 2) (.cons (.name 3) .nil))) x (wipeW [some w, some u, x2, x3] [2, 3])) (evC (callN P wf k) .none) (evE (callN P wf k) (.call fid (.cons (.var 2) (.cons (.var 3) .nil)) [])))
    (fun i hi => by
      rw [hlen] at hi
      have ex : ws[i]? = some ws[i] := List.getElem?_eq_getElem hi
      have ey : us[i]? = some (us[i]'(by omega)) := List.getElem?_eq_getElem _
      refine ⟨.tup [ws[i], us[i]'(by omega)], ?_, ?_⟩
      · simp only [Src.at, a1, a2, ex, ey, Option.bind_some, Option.map_some]
      · have e := ih i _ _ ex ey
        simp [stepW, wipeW, ofE, evE, evEs, evSs, evS, evO, evC, M.bind, M.ret, M.opt, M.fail, cmpW, eqW, asInt, asBl, asStr, asTup, asLst, asSeq, asDct, thenS, binW, iBin, fin, mkLst, quiet, asgT, asgTs, slotSet, Tgs.len, primW, mthW, mthTy, isTy, isTys, subW, setW, allOpt, startW, e]) (by simp only [Src.fin, f1, f2, Bool.and_self])
  have e := lc_ok (c := false) eit (by rw [hlen]; exact hlim) hloop
  have e3 : ∀ m : Nat, allOpt asBl ((List.range m).map (fun _ => W.bl true)) = some ((List.range m).map (fun _ => true)) := fun m => by
    generalize List.range m = l
    induction l with
    | nil => rfl
    | cons a l ih => simp only [List.map_cons, allOpt, asBl, ih]
  have e4 : ∀ m : Nat, ((List.range m).map (fun _ => true)).all id = true := fun m => by simp
  show M.bind _ _ st = _
  unfold M.bind
  have e5 : evEs (callN P wf k) (.cons (sameE fid) .nil) [some w, some u, x2, x3] st = .ok [.lst ((List.range ws.length).map (fun _ => W.bl true))] st := by
    show M.bind _ _ st = _
    unfold M.bind
    unfold sameE
    rw [e, hlen]
    rfl
  simp only [e5]
  simp [ofE, evE, evEs, evSs, evS, evO, evC, M.bind, M.ret, M.opt, M.fail, cmpW, eqW, asInt, asBl, asStr, asTup, asLst, asSeq, asDct, thenS, binW, iBin, fin, mkLst, quiet, asgT, asgTs, slotSet, Tgs.len, primW, mthW, mthTy, isTy, isTys, subW, setW, allOpt, startW, e3, e4]
theorem same_ok {fid : Nat} (hf : find P fid = some (sameD fid)) {st : Store} : ∀ (n k : Nat) (w u : W) (d : PyData), n < k → data st n w = some d → data st n u = some d → smallD d = true → callN P wf k fid [w, u] st = .ok (.bl true) st := by
  intro n
  induction n with
  | zero =>
    intro k w u d hk h1 h2 hs
    obtain ⟨k, rfl⟩ : ∃ j, k = j + 1 := ⟨k - 1, by omega⟩
    refine call_rt hf rfl ?_
    rcases data_seq h1 with ⟨_, _, _, _, z, _⟩ | ⟨_, _, _, _, z, _⟩ | ⟨rfl, rfl⟩ | ⟨b, rfl, rfl⟩ | ⟨b, rfl, rfl⟩ | ⟨b, rfl, rfl⟩
    · cases z
    · cases z
    all_goals
      rcases data_seq h2 with ⟨_, _, _, z, _⟩ | ⟨_, _, _, z, _⟩ | ⟨rfl, z⟩ | ⟨b', rfl, z⟩ | ⟨b', rfl, z⟩ | ⟨b', rfl, z⟩ <;> first | (cases z; done) | (cases z; simp [sameD, sameL, ofE, evE, evEs, evSs, evS, evO, evC, M.bind, M.ret, M.opt, M.fail, cmpW, eqW, asInt, asBl, asStr, asTup, asLst, asSeq, asDct, thenS, binW, iBin, fin, mkLst, quiet, asgT, asgTs, slotSet, Tgs.len, primW, mthW, mthTy, isTy, isTys, subW, setW, allOpt, startW])
  | succ n ih =>
    intro k w u d hk h1 h2 hs
    obtain ⟨k, rfl⟩ : ∃ j, k = j + 1 := ⟨k - 1, by omega⟩
    refine call_rt hf rfl ?_
    rcases data_seq h1 with ⟨ds, ws, m, rfl, z, a1, a2, a3, a4, a5, a6⟩ | ⟨ds, ws, m, rfl, z, rfl, a6⟩ | ⟨rfl, rfl⟩ | ⟨b, rfl, rfl⟩ | ⟨b, rfl, rfl⟩ | ⟨b, rfl, rfl⟩
    · cases z
      rcases data_seq h2 with ⟨ds', us, m', z, z', b1, b2, b3, b4, b5, b6⟩ | ⟨_, _, _, z, _⟩ | ⟨rfl, z⟩ | ⟨b', rfl, z⟩ | ⟨b', rfl, z⟩ | ⟨b', rfl, z⟩ <;> first | (cases z; done) | skip
      cases z; cases z'
      simp only [smallD, Bool.and_eq_true, decide_eq_true_eq] at hs
      have l1 := allOpt_len a6
      have l2 := allOpt_len b6
      have ez := same_zip (P := P) (wf := wf) (fid := fid) (k := k) a2 b2 (by omega) (by omega) (by rw [a3, b3]) (fun i x y ex ey => by
        have hi := lt_of_get ex
        have hd : ds[i]? = some (ds[i]'(by omega)) := List.getElem?_eq_getElem _
        obtain ⟨x', e1, e2⟩ := allOpt_at a6 hd
        obtain ⟨y', e3, e4⟩ := allOpt_at b6 hd
        rw [ex] at e1; cases e1
        rw [ey] at e3; cases e3
        exact ih k x y _ (by omega) e2 e4 (smallDs_at hs.2 hd)) none none
      have c0 : evE (callN P wf k) (.isiT [.list, .tuple] (.var 1)) [some w, some u, none, none] st = .ok (.bl true) st := by simp [ofE, evE, evEs, evSs, evS, evO, evC, M.bind, M.ret, M.opt, M.fail, cmpW, eqW, asInt, asBl, asStr, asTup, asLst, asSeq, thenS, binW, iBin, fin, mkLst, quiet, asgT, asgTs, slotSet, Tgs.len, mthTy, isTys, setW, allOpt, startW, b4]
      have c1 : evE (callN P wf k) (.or (.cmp .ne (.isi .list (.var 0)) (.isi .list (.var 1))) (.cmp .ne (.isi .tuple (.var 0)) (.isi .tuple (.var 1)))) [some w, some u, none, none] st = .ok (.bl false) st := by simp [ofE, evE, evEs, evSs, evS, evO, evC, M.bind, M.ret, M.opt, M.fail, cmpW, eqW, asInt, asBl, asStr, asTup, asLst, asSeq, thenS, binW, iBin, fin, mkLst, quiet, asgT, asgTs, slotSet, Tgs.len, mthTy, isTys, setW, allOpt, startW, a4, b4, a5, b5]
      have c2 : evE (callN P wf k) (.cmp .eq (.bi false .len (.cons (.var 0) .nil)) (.bi false .len (.cons (.var 1) .nil))) [some w, some u, none, none] st = .ok (.bl true) st := by simp [ofE, evE, evEs, evSs, evS, evO, evC, M.bind, M.ret, M.opt, M.fail, cmpW, eqW, asInt, asBl, asStr, asTup, asLst, asSeq, thenS, binW, iBin, fin, mkLst, quiet, asgT, asgTs, slotSet, Tgs.len, mthTy, isTys, setW, allOpt, startW, len_prim a2, len_prim b2]; omega
      have c3 : evE (callN P wf k) (.and (.cmp .eq (.bi false .len (.cons (.var 0) .nil)) (.bi false .len (.cons (.var 1) .nil))) (.bi false .all (.cons (sameE fid) .nil))) [some w, some u, none, none] st = .ok (.bl true) st := by
        show M.bind _ _ st = _
        unfold M.bind
        simp only [c2]
        exact ez
      refine seq_rt (sl := [some w, some u, none, none]) ?_
      rw [ife_t c0]
      unfold sameL
      rw [seq_nx ((ife_f c1).trans rfl)]
      exact seq_rt (ret_ok c3)
    · cases z
      rcases data_seq h2 with ⟨_, _, _, z, _⟩ | ⟨ds', us, m', z, z', rfl, b6⟩ | ⟨rfl, z⟩ | ⟨b', rfl, z⟩ | ⟨b', rfl, z⟩ | ⟨b', rfl, z⟩ <;> first | (cases z; done) | skip
      cases z; cases z'
      simp only [smallD, Bool.and_eq_true, decide_eq_true_eq] at hs
      have l1 := allOpt_len a6
      have l2 := allOpt_len b6
      have ez := same_zip (P := P) (wf := wf) (fid := fid) (k := k) (st := st) (w := .tup ws) (u := .tup us) (ws := ws) (us := us) rfl rfl (by omega) (by omega) rfl (fun i x y ex ey => by
        have hi := lt_of_get ex
        have hd : ds[i]? = some (ds[i]'(by omega)) := List.getElem?_eq_getElem _
        obtain ⟨x', e1, e2⟩ := allOpt_at a6 hd
        obtain ⟨y', e3, e4⟩ := allOpt_at b6 hd
        rw [ex] at e1; cases e1
        rw [ey] at e3; cases e3
        exact ih k x y _ (by omega) e2 e4 (smallDs_at hs.2 hd)) none none
      have c2 : evE (callN P wf k) (.cmp .eq (.bi false .len (.cons (.var 0) .nil)) (.bi false .len (.cons (.var 1) .nil))) [some (.tup ws), some (.tup us), none, none] st = .ok (.bl true) st := by simp [ofE, evE, evEs, evSs, evS, evO, evC, M.bind, M.ret, M.opt, M.fail, cmpW, eqW, asInt, asBl, asStr, asTup, asLst, asSeq, thenS, binW, iBin, fin, mkLst, quiet, asgT, asgTs, slotSet, Tgs.len, mthTy, isTys, setW, allOpt, startW, len_prim (st := st) (w := .tup ws) (ws := ws) rfl, len_prim (st := st) (w := .tup us) (ws := us) rfl]; omega
      have c3 : evE (callN P wf k) (.and (.cmp .eq (.bi false .len (.cons (.var 0) .nil)) (.bi false .len (.cons (.var 1) .nil))) (.bi false .all (.cons (sameE fid) .nil))) [some (.tup ws), some (.tup us), none, none] st = .ok (.bl true) st := by
        show M.bind _ _ st = _
        unfold M.bind
        simp only [c2]
        exact ez
      refine seq_rt (sl := [some (.tup ws), some (.tup us), none, none]) ?_
      rw [ife_t (st' := st) (by simp [ofE, evE, evEs, evSs, evS, evO, evC, M.bind, M.ret, M.opt, M.fail, cmpW, eqW, asInt, asBl, asStr, asTup, asLst, asSeq, asDct, thenS, binW, iBin, fin, mkLst, quiet, asgT, asgTs, slotSet, Tgs.len, primW, mthW, mthTy, isTy, isTys, subW, setW, allOpt, startW])]
      unfold sameL
      rw [seq_nx (sl' := [some (.tup ws), some (.tup us), none, none]) (st' := st) ((ife_f (st' := st) (by simp [ofE, evE, evEs, evSs, evS, evO, evC, M.bind, M.ret, M.opt, M.fail, cmpW, eqW, asInt, asBl, asStr, asTup, asLst, asSeq, asDct, thenS, binW, iBin, fin, mkLst, quiet, asgT, asgTs, slotSet, Tgs.len, primW, mthW, mthTy, isTy, isTys, subW, setW, allOpt, startW])).trans rfl)]
      exact seq_rt (ret_ok c3)
    all_goals
      rcases data_seq h2 with ⟨_, _, _, z, _⟩ | ⟨_, _, _, z, _⟩ | ⟨rfl, z⟩ | ⟨b', rfl, z⟩ | ⟨b', rfl, z⟩ | ⟨b', rfl, z⟩ <;> first | (cases z; done) | (cases z; simp [sameD, sameL, ofE, evE, evEs, evSs, evS, evO, evC, M.bind, M.ret, M.opt, M.fail, cmpW, eqW, asInt, asBl, asStr, asTup, asLst, asSeq, asDct, thenS, binW, iBin, fin, mkLst, quiet, asgT, asgTs, slotSet, Tgs.len, primW, mthW, mthTy, isTy, isTys, subW, setW, allOpt, startW])
end
end MP
/-! MP20: more of the laws' common helpers. -/
namespace MP
open PySem
def pickD (id draw : Nat) : Fn := ⟨id, "_law_pick", ["stream", "things"], 2, .cons (.ret (.sub (.var 1) (.call draw (.cons (.var 0) (.cons (.bi false .len (.cons (.var 1) .nil)) .nil)) []))) .nil⟩
def looseD (id draw : Nat) : Fn := ⟨id, "_law_loose", ["stream", "thing", "some", "one"], 2,
  .cons (.ife (.isiT [.list, .tuple] (.var 1)) (.cons (.asg (.name 2) (.lc false [3] (.name 3) (.seq (.var 1)) .none (.call id (.cons (.var 0) (.cons (.var 3) .nil)) []))) (.cons (.ret (.ife (.cmp .eq (.call draw (.cons (.var 0) (.cons (.int 2) .nil)) []) (.int 0)) (.var 2) (.bi false .tuple (.cons (.var 2) .nil)))) .nil)) .nil)
  (.cons (.ret (.var 1)) .nil)⟩
def spoiltF (id : Nat) : S := .for (.name 2) (.seq (.var 0)) (.cons (.expr (.call id (.cons (.var 2) .nil) [])) .nil)
def spoiltD (id : Nat) : Fn := ⟨id, "_law_spoilt", ["thing", "key", "part"], 1,
  .cons (.ife (.isi .dict (.var 0)) (.cons .never (.cons .never .nil)) .nil)
  (.cons (.ife (.isiT [.list, .tuple] (.var 0)) (.cons (spoiltF id) .nil) .nil)
  (.cons (.ife (.isi .list (.var 0)) (.cons (.expr (.mt .append (.var 0) (.cons (.str "late") .nil))) .nil) .nil) .nil))⟩
def mixedD (id draw : Nat) : Fn := ⟨id, "_law_mixed", ["stream", "things", "left", "found", "k"], 2,
  .cons (.asg (.tup (.cons (.name 2) (.cons (.name 3) .nil))) (.tup (.cons (.bi true .list (.cons (.var 1) .nil)) (.cons (.lst true .nil) .nil))))
  (.cons (.for (.name 4) (.range (.cons (.bi false .len (.cons (.var 2) .nil)) .nil)) (.cons (.expr (.mt .append (.var 3) (.cons (.mt .popAt (.var 2) (.cons (.call draw (.cons (.var 0) (.cons (.bi false .len (.cons (.var 2) .nil)) .nil)) []) .nil)) .nil))) .nil))
  (.cons (.ret (.fz (.var 3))) .nil))⟩
section
variable {P : List Fn} {wf : Nat}
/-! ### the stream made -/
theorem stream_call {k id B : Nat} {st : Store} {w : W} {is : List Int} (hf : find P id = some (streamD id)) (h : asSeq st w = some (is.map .int)) (hl : is.length + 2 < wf) (hB : B ≤ 2 ^ 40) :
    callN P wf (k + 1) id [w] st = .ok (.cell (st.length + 1)) (st ++ [.lst (is.map .int), .lst [.cell st.length, .int 0, .int 0, .int 19]]) ∧ Strm wf (st ++ [.lst (is.map .int), .lst [.cell st.length, .int 0, .int 0, .int 19]]) (st.length + 1) st.length B := by
  constructor
  · refine call_rt hf rfl ?_
    have hp : primW st .list [w] = some (.lst (is.map .int)) := by
      show (asSeq st w).map W.lst = _
      rw [h]; rfl
    refine seq_rt (ret_ok ?_)
    simp [streamD, ofE, evE, evEs, evSs, evS, evO, evC, M.bind, M.ret, M.opt, M.fail, cmpW, eqW, asInt, asBl, asStr, asTup, asLst, asSeq, thenS, binW, iBin, fin, mkLst, quiet, asgT, asgTs, slotSet, Tgs.len, mthTy, isTys, setW, allOpt, startW, hp, LIM]
  · refine ⟨⟨is, 0, 0, 19, ?_, ?_, hl, Int.le_refl _, Int.le_refl _, by omega, by decide, by decide⟩, by omega⟩
    · rw [List.getElem?_append_right (by omega)]; simp
    · rw [List.getElem?_append_right (by omega)]; simp
theorem pick_call {k id draw n q B : Nat} {st : Store} {w : W} {ws : List W} (hf : find P id = some (pickD id draw)) (hd : find P draw = some (drawD draw)) (h : Strm wf st n q (B + 1)) (hw : ∀ st', Same2 n q st st' → asSeq st' w = some ws) (hne : ws ≠ []) (hlim : ws.length ≤ LIM) :
    ∃ (r : W) (st' : Store), callN P wf (k + 2) id [.cell n, w] st = .ok r st' ∧ r ∈ ws ∧ Strm wf st' n q B ∧ Same2 n q st st' := by
  have h0 := hw st (Same2.refl _ _ _)
  have hl0 : 0 < ws.length := List.length_pos_iff.mpr hne
  have hL : LIM = 1000000 := rfl
  obtain ⟨r, st', e, r1, r2, h1, h2⟩ := draw_call (wf := wf) (k := k) (m := (ws.length : Int)) hd h (by omega) (by omega)
  have hs := hw st' h2
  have hr : r.toNat < ws.length := by omega
  refine ⟨ws[r.toNat], st', ?_, List.getElem_mem _, h1, h2⟩
  refine call_rt hf rfl (seq_rt (ret_ok ?_))
  have hsub : subW st' w (.int r) = some ws[r.toNat] := by
    have hat : L2.atI ws r = some ws[r.toNat] := by
      unfold L2.atI L2.ixN
      simp [show ¬ r < 0 by omega, show 0 ≤ r by omega, r2, hr]
    cases w <;> first | (cases hs; done) | (simp only [subW, hs, hat])
  show M.bind (evE (callN P wf (k + 1)) (.var 1) _) _ st = _
  have e1 : evE (callN P wf (k + 1)) (.call draw (.cons (.var 0) (.cons (.bi false .len (.cons (.var 1) .nil)) .nil)) []) (startW 2 [.cell n, w]) st = .ok (.int r) st' := by
    have := len_prim h0
    simp [ofE, evE, evEs, evSs, evS, evO, evC, M.bind, M.ret, M.opt, M.fail, cmpW, eqW, asInt, asBl, asStr, asTup, asLst, asSeq, thenS, binW, iBin, fin, mkLst, quiet, asgT, asgTs, slotSet, Tgs.len, mthTy, isTys, setW, allOpt, startW, this, e]
  unfold M.bind
  simp only [startW]
  show M.bind (evE (callN P wf (k + 1)) (.call draw (.cons (.var 0) (.cons (.bi false .len (.cons (.var 1) .nil)) .nil)) []) (startW 2 [.cell n, w])) _ st = _
  unfold M.bind
  simp only [e1]
  unfold M.opt
  simp only [hsub]
/-- loose over ints: a list, or a tuple -/
theorem loose_int {k id draw : Nat} {st : Store} {s : W} {i : Int} (hf : find P id = some (looseD id draw)) : callN P wf (k + 1) id [s, .int i] st = .ok (.int i) st := by
  refine call_rt hf rfl ?_
  simp [looseD, ofE, evE, evEs, evSs, evS, evO, evC, M.bind, M.ret, M.opt, M.fail, cmpW, eqW, asInt, asBl, asStr, asTup, asLst, asSeq, asDct, thenS, binW, iBin, fin, mkLst, quiet, asgT, asgTs, slotSet, Tgs.len, primW, mthW, mthTy, isTy, isTys, subW, setW, allOpt, startW]
theorem loose_flat {k id draw n q B : Nat} {st : Store} {w : W} {is : List Int} (hf : find P id = some (looseD id draw)) (hd : find P draw = some (drawD draw)) (h : Strm wf st n q (B + 1)) (hw : asSeq st w = some (is.map .int)) (ht : isTys st [.list, .tuple] w = some true) (hl : is.length ≤ LIM) :
    ∃ (r : W) (st' : Store), callN P wf (k + 2) id [.cell n, w] st = .ok r st' ∧ (r = .lst (is.map .int) ∨ r = .tup (is.map .int)) ∧ Strm wf st' n q B ∧ Same2 n q st st' := by
  obtain ⟨s, e1, l1, g1⟩ := src1_of hw
  obtain ⟨a1, f1⟩ := g1 st (keepsW.refl st w)
  have hlen : (Src.one s).len = is.length := by simp only [Src.len, l1, List.length_map]
  have eit : evIt (callN P wf (k + 1)) (.seq (.var 1)) [some (.cell n), some w, none, none] st = .ok (.one s) st := by
    simp [evIt, ofE, evE, evEs, evSs, evS, evO, evC, M.bind, M.ret, M.opt, M.fail, cmpW, eqW, asInt, asBl, asStr, asTup, asLst, asSeq, asDct, thenS, binW, iBin, fin, mkLst, quiet, asgT, asgTs, slotSet, Tgs.len, primW, mthW, mthTy, isTy, isTys, subW, setW, allOpt, startW, e1]
  have hloop := lc_map (src := .one s) (st := st) (f := fun i => W.int (is.getD i 0)) (step := fun x => stepW (asgT (callN P wf (k + 1)) (.name 3) x (wipeW [some (.cell n), some w, none, none] [3])) (evC (callN P wf (k + 1)) .none) (evE (callN P wf (k + 1)) (.call id (.cons (.var 0) (.cons (.var 3) .nil)) [])))
    (fun i hi => by
      rw [hlen] at hi
      refine ⟨.int (is.getD i 0), ?_, ?_⟩
      · simp only [Src.at, a1, List.getElem?_map, List.getElem?_eq_getElem hi, Option.map_some, List.getD_eq_getElem?_getD, Option.getD_some]
      · generalize is.getD i 0 = v
        have e := loose_int (P := P) (wf := wf) (k := k) (st := st) (s := .cell n) (i := v) hf
        simp [stepW, wipeW, ofE, evE, evEs, evSs, evS, evO, evC, M.bind, M.ret, M.opt, M.fail, cmpW, eqW, asInt, asBl, asStr, asTup, asLst, asSeq, asDct, thenS, binW, iBin, fin, mkLst, quiet, asgT, asgTs, slotSet, Tgs.len, primW, mthW, mthTy, isTy, isTys, subW, setW, allOpt, startW, e]) (by simp only [Src.fin, f1])
  have em : (List.range (Src.one s).len).map (fun i => W.int (is.getD i 0)) = is.map .int := by
    rw [hlen]
    apply List.ext_getElem
    · simp
    · intro i h1 h2
      simp at h1
      simp [h1]
  rw [em] at hloop
  have e := lc_ok (c := false) eit (by rw [hlen]; exact hl) hloop
  obtain ⟨r, st', e2, r1, r2, h1, h2⟩ := draw_call (wf := wf) (k := k) (m := 2) hd h (by omega) (by omega)
  have c0 : evE (callN P wf (k + 1)) (.isiT [.list, .tuple] (.var 1)) [some (.cell n), some w, none, none] st = .ok (.bl true) st := by
    show M.bind _ _ st = _
    unfold M.bind
    have : evE (callN P wf (k + 1)) (.var 1) [some (.cell n), some w, none, none] st = .ok w st := rfl
    simp only [this]
    unfold M.opt
    simp only [ht, Option.map_some]
  refine ⟨if r = 0 then .lst (is.map .int) else .tup (is.map .int), st', call_rt hf rfl (seq_rt (sl := [some (.cell n), some w, none, none]) ?_), ?_, h1, h2⟩
  · rw [ife_t c0]
    rw [seq_nx (asgN_ok e)]
    refine seq_rt (ret_ok ?_)
    by_cases hr : r = 0
    · simp [ofE, evE, evEs, evSs, evS, evO, evC, M.bind, M.ret, M.opt, M.fail, cmpW, eqW, asInt, asBl, asStr, asTup, asLst, asSeq, asDct, thenS, binW, iBin, fin, mkLst, quiet, asgT, asgTs, slotSet, Tgs.len, primW, mthW, mthTy, isTy, isTys, subW, setW, allOpt, startW, e2, hr]
    · simp [ofE, evE, evEs, evSs, evS, evO, evC, M.bind, M.ret, M.opt, M.fail, cmpW, eqW, asInt, asBl, asStr, asTup, asLst, asSeq, asDct, thenS, binW, iBin, fin, mkLst, quiet, asgT, asgTs, slotSet, Tgs.len, primW, mthW, mthTy, isTy, isTys, subW, setW, allOpt, startW, e2, hr]
  · by_cases hr : r = 0
    · left; rw [if_pos hr]
    · right; rw [if_neg hr]
/-- spoilt: what is no list stays -/
theorem spoilt_int {k id : Nat} {st : Store} {i : Int} (hf : find P id = some (spoiltD id)) : callN P wf (k + 1) id [.int i] st = .ok .non st := by
  refine call_nx (sl := [some (.int i), none, none]) hf rfl ?_
  simp [spoiltD, ofE, evE, evEs, evSs, evS, evO, evC, M.bind, M.ret, M.opt, M.fail, cmpW, eqW, asInt, asBl, asStr, asTup, asLst, asSeq, asDct, thenS, binW, iBin, fin, mkLst, quiet, asgT, asgTs, slotSet, Tgs.len, primW, mthW, mthTy, isTy, isTys, subW, setW, allOpt, startW]
theorem spoilt_ints {k id c : Nat} {st : Store} {is : List Int} (hf : find P id = some (spoiltD id)) (h : st[c]? = some (.lst (is.map .int))) (hl : is.length < LIM) : callN P wf (k + 2) id [.cell c] st = .ok .non (st.set c (.lst (is.map .int ++ [.str "late"]))) := by
  obtain ⟨s, e1, l1, g1⟩ := src1_of (st := st) (w := .cell c) (ws := is.map .int) (by simp only [asSeq, asLst, h])
  obtain ⟨a1, f1⟩ := g1 st (keepsW.refl st _)
  have hlen : (Src.one s).len = is.length := by simp only [Src.len, l1, List.length_map]
  have eit : ∀ x2 x3, evIt (callN P wf (k + 1)) (.seq (.var 0)) [some (.cell c), x2, x3] st = .ok (.one s) st := fun x2 x3 => by
    simp [evIt, ofE, evE, evEs, evSs, evS, evO, evC, M.bind, M.ret, M.opt, M.fail, cmpW, eqW, asInt, asBl, asStr, asTup, asLst, asSeq, asDct, thenS, binW, iBin, fin, mkLst, quiet, asgT, asgTs, slotSet, Tgs.len, primW, mthW, mthTy, isTy, isTys, subW, setW, allOpt, startW, e1]
  obtain ⟨sl', st', ef, x3, e3, e4⟩ := for_inv (src := .one s) (g := asgT (callN P wf (k + 1)) (.name 2)) (b := evSs (callN P wf (k + 1)) wf (.cons (.expr (.call id (.cons (.var 2) .nil) [])) .nil))
    (fun i sl st' => ∃ x3 : Option W, sl = [some (.cell c), none, x3] ∧ st' = st)
    (fun i sl st' hi ⟨x3, e3, e4⟩ => by
      subst e3 e4
      rw [hlen] at hi
      refine ⟨.int is[i], _, _, _, _, ?_, rfl, ?_, some (.int is[i]), rfl, rfl⟩
      · simp only [Src.at, a1, List.getElem?_map, List.getElem?_eq_getElem hi, Option.map_some]
      · have e := spoilt_int (P := P) (wf := wf) (k := k) (st := st') (i := is[i]) hf
        simp [ofE, evE, evEs, evSs, evS, evO, evC, M.bind, M.ret, M.opt, M.fail, cmpW, eqW, asInt, asBl, asStr, asTup, asLst, asSeq, asDct, thenS, binW, iBin, fin, mkLst, quiet, asgT, asgTs, slotSet, Tgs.len, primW, mthW, mthTy, isTy, isTys, subW, setW, allOpt, startW, e]) (fun sl st' ⟨x3, e3, e4⟩ => by rw [e4]; exact f1) (Src.one s).len 0 [some (.cell c), none, none] st (by omega) ⟨none, rfl, rfl⟩
  subst e3 e4
  have eF := forS (C := callN P wf (k + 1)) (wf := wf) (t := .name 2) (eit none none) ef
  refine call_nx (sl := [some (.cell c), none, x3]) hf rfl ?_
  show evSs _ wf (spoiltD id).body [some (.cell c), none, none] st' = _
  unfold spoiltD
  simp only []
  have c0 : evE (callN P wf (k + 1)) (.isi .dict (.var 0)) [some (.cell c), none, none] st' = .ok (.bl false) st' := by simp [ofE, evE, evEs, evSs, evS, evO, evC, M.bind, M.ret, M.opt, M.fail, cmpW, eqW, asInt, asBl, asStr, asTup, asLst, asSeq, asDct, thenS, binW, iBin, fin, mkLst, quiet, asgT, asgTs, slotSet, Tgs.len, primW, mthW, mthTy, isTy, isTys, subW, setW, allOpt, startW, h]
  have c1 : evE (callN P wf (k + 1)) (.isiT [.list, .tuple] (.var 0)) [some (.cell c), none, none] st' = .ok (.bl true) st' := by simp [ofE, evE, evEs, evSs, evS, evO, evC, M.bind, M.ret, M.opt, M.fail, cmpW, eqW, asInt, asBl, asStr, asTup, asLst, asSeq, asDct, thenS, binW, iBin, fin, mkLst, quiet, asgT, asgTs, slotSet, Tgs.len, primW, mthW, mthTy, isTy, isTys, subW, setW, allOpt, startW, h]
  have c2 : evE (callN P wf (k + 1)) (.isi .list (.var 0)) [some (.cell c), none, x3] st' = .ok (.bl true) st' := by simp [ofE, evE, evEs, evSs, evS, evO, evC, M.bind, M.ret, M.opt, M.fail, cmpW, eqW, asInt, asBl, asStr, asTup, asLst, asSeq, asDct, thenS, binW, iBin, fin, mkLst, quiet, asgT, asgTs, slotSet, Tgs.len, primW, mthW, mthTy, isTy, isTys, subW, setW, allOpt, startW, h]
  have c3 : evE (callN P wf (k + 1)) (.mt .append (.var 0) (.cons (.str "late") .nil)) [some (.cell c), none, x3] st' = .ok .non (st'.set c (.lst (is.map .int ++ [.str "late"]))) := by simp [ofE, evE, evEs, evSs, evS, evO, evC, M.bind, M.ret, M.opt, M.fail, cmpW, eqW, asInt, asBl, asStr, asTup, asLst, asSeq, asDct, thenS, binW, iBin, fin, mkLst, quiet, asgT, asgTs, slotSet, Tgs.len, primW, mthW, mthTy, isTy, isTys, subW, setW, allOpt, startW, h, hl]
  rw [seq_nx ((ife_f c0).trans seq_nil)]
  have eS : evS (callN P wf (k + 1)) wf (.ife (.isiT [.list, .tuple] (.var 0)) (.cons (spoiltF id) .nil) .nil) [some (.cell c), none, none] st' = .ok (.nx [some (.cell c), none, x3]) st' := by
    rw [ife_t c1]
    exact (seq_nx eF).trans seq_nil
  rw [seq_nx eS]
  exact (seq_nx ((ife_t c2).trans ((seq_nx (expr_ok c3)).trans seq_nil))).trans seq_nil
end
end MP
/-! MP21: comprehensions by values; streams and cells. -/
namespace MP
open PySem
section
variable {C : Nat → List W → M W} {wf : Nat}
theorem lc_ix {c : Bool} {own : List Nat} {t : Tg} {it : It} {elt : E} {sl : Slots} {st : Store} {src : Src} {f : Nat → W} (h : evIt C it sl st = .ok src st) (hl : src.len ≤ LIM) (hf : src.fin st = true)
    (hg : ∀ i, i < src.len → ∃ x, src.at st i = some x ∧ stepW (asgT C t x (wipeW sl own)) (evC C .none) (evE C elt) st = .ok (some (f i)) st) : evE C (.lc c own t it .none elt) sl st = mkLst c ((List.range src.len).map f) st :=
  lc_ok h hl (lc_map hg hf)
theorem range_map {α : Type} {ws : List α} {g : α → W} {d : α} : (List.range ws.length).map (fun i => g (ws.getD i d)) = ws.map g := by
  apply List.ext_getElem
  · simp
  · intro i h1 h2
    simp at h1
    simp [h1]
theorem lc_seq {c : Bool} {own : List Nat} {t : Tg} {e elt : E} {sl : Slots} {st : Store} {w : W} {ws : List W} {g : W → W} (he : evE C e sl st = .ok w st) (hw : asSeq st w = some ws) (hl : ws.length ≤ LIM)
    (hg : ∀ x ∈ ws, stepW (asgT C t x (wipeW sl own)) (evC C .none) (evE C elt) st = .ok (some (g x)) st) : evE C (.lc c own t (.seq e) .none elt) sl st = mkLst c (ws.map g) st := by
  obtain ⟨s, e1, l1, g1⟩ := src1_of hw
  obtain ⟨a1, f1⟩ := g1 st (keepsW.refl st w)
  have hlen : (Src.one s).len = ws.length := by simp only [Src.len, l1]
  have eit : evIt C (.seq e) sl st = .ok (.one s) st := by
    show M.bind _ _ st = _
    unfold M.bind
    simp only [he]
    unfold M.opt
    simp only [e1, Option.map_some]
  rw [lc_ix (f := fun i => g (ws.getD i .non)) eit (by rw [hlen]; exact hl) (by simp only [Src.fin, f1]) (fun i hi => by
    rw [hlen] at hi
    refine ⟨ws[i], by simp only [Src.at, a1, List.getElem?_eq_getElem hi], ?_⟩
    have := hg ws[i] (List.getElem_mem hi)
    rw [this]
    simp [hi]), hlen, range_map]
theorem rg1 {n : Nat} (hl : n ≤ LIM) : rangeOf [.int (n : Int)] = some (0, 1, n) := by
  have hL : n ≤ 1000000 := hl
  clear hl
  unfold rangeOf
  simp only []
  rw [if_pos (by simp only [Bool.and_eq_true, decide_eq_true_eq]; constructor <;> omega), Int.toNat_natCast]
theorem evIt_rng {e : E} {sl : Slots} {st st1 : Store} {w : W} {r : Int × Int × Nat} (he : evE C e sl st = .ok w st1) (hr : rangeOf [w] = some r) : evIt C (.range (.cons e .nil)) sl st = .ok (.rng r.1 r.2.1 r.2.2) st1 := by
  have h1 : evEs C (.cons e .nil) sl st = .ok [w] st1 := by
    show M.bind (evE C e sl) _ st = _
    unfold M.bind
    simp only [he]
    rfl
  show M.bind (evEs C (.cons e .nil) sl) (fun ws => M.opt ((rangeOf ws).map fun r => Src.rng r.1 r.2.1 r.2.2)) st = _
  unfold M.bind
  simp only [h1]
  rw [hr]
  rfl
theorem lc_rng {c : Bool} {own : List Nat} {t : Tg} {e elt : E} {sl : Slots} {st : Store} {n : Nat} {g : Nat → W} (he : evE C e sl st = .ok (.int n) st) (hl : n ≤ LIM)
    (hg : ∀ i, i < n → stepW (asgT C t (.int i) (wipeW sl own)) (evC C .none) (evE C elt) st = .ok (some (g i)) st) : evE C (.lc c own t (.range (.cons e .nil)) .none elt) sl st = mkLst c ((List.range n).map g) st := by
  have eit : evIt C (.range (.cons e .nil)) sl st = .ok (.rng 0 1 n) st := evIt_rng he (rg1 hl)
  exact lc_ix (src := .rng 0 1 n) eit hl rfl (fun i hi => by
    have hi : i < n := hi
    refine ⟨.int i, by simp [Src.at, hi], hg i hi⟩)
theorem ints_of {is : List Int} : allOpt asInt (is.map W.int) = some is := by
  induction is with
  | nil => rfl
  | cons i is ih => simp only [List.map_cons, allOpt, asInt, ih]
theorem Strm.at {st st' : Store} {n q B : Nat} (h : Strm wf st n q B) (h1 : st'[n]? = st[n]?) (h2 : st'[q]? = st[q]?) : Strm wf st' n q B := by
  obtain ⟨⟨is, a, b, c, e1, e2, r⟩, ne⟩ := h
  exact ⟨⟨is, a, b, c, by rw [h1]; exact e1, by rw [h2]; exact e2, r⟩, ne⟩
theorem Strm.lt {st : Store} {n q B : Nat} (h : Strm wf st n q B) : n < st.length ∧ q < st.length := by
  obtain ⟨⟨is, a, b, c, e1, e2, r⟩, ne⟩ := h
  exact ⟨lt_of_get e1, lt_of_get e2⟩
theorem get_app {st l : Store} {n : Nat} (h : n < st.length) : (st ++ l)[n]? = st[n]? := List.getElem?_append_left h
theorem Strm.app {st : Store} {n q B : Nat} (h : Strm wf st n q B) (l : Store) : Strm wf (st ++ l) n q B := h.at (get_app h.lt.1) (get_app h.lt.2)
end
section
variable {P : List Fn} {wf : Nat}
/-- spoilt over a row of two lists -/
theorem spoilt_two {k id c a b : Nat} {st : Store} {is js : List Int} (hf : find P id = some (spoiltD id)) (h : st[c]? = some (.lst [.cell a, .cell b])) (ha : st[a]? = some (.lst (is.map .int))) (hb : st[b]? = some (.lst (js.map .int))) (hab : a ≠ b) (hac : a ≠ c) (hbc : b ≠ c) (hl : is.length < LIM) (hl2 : js.length < LIM) :
    ∃ st', callN P wf (k + 3) id [.cell c] st = .ok .non st' ∧ st'.length = st.length ∧ ∀ i, i ≠ a → i ≠ b → i ≠ c → st'[i]? = st[i]? := by
  have e1 := spoilt_ints (wf := wf) (k := k) hf ha hl
  have hb' : (st.set a (.lst (is.map .int ++ [.str "late"])))[b]? = some (.lst (js.map .int)) := by rw [set_other hab]; exact hb
  have e2 := spoilt_ints (wf := wf) (k := k) hf hb' hl2
  have hc1 : (st.set a (.lst (is.map .int ++ [.str "late"])))[c]? = some (.lst [.cell a, .cell b]) := by rw [set_other hac]; exact h
  have hc2 : ((st.set a (.lst (is.map .int ++ [.str "late"]))).set b (.lst (js.map .int ++ [.str "late"])))[c]? = some (.lst [.cell a, .cell b]) := by rw [set_other hbc]; exact hc1
  have len2 : ((st.set a (.lst (is.map .int ++ [.str "late"]))).set b (.lst (js.map .int ++ [.str "late"]))).length = st.length := by simp
  have at2 : ∀ i, i ≠ a → i ≠ b → i ≠ c → ((st.set a (.lst (is.map .int ++ [.str "late"]))).set b (.lst (js.map .int ++ [.str "late"])))[i]? = st[i]? := fun i h1 h2 h3 => by rw [set_other (Ne.symm h2), set_other (Ne.symm h1)]
  generalize hs1 : st.set a (.lst (is.map .int ++ [.str "late"])) = st1 at *
  generalize hs2 : st1.set b (.lst (js.map .int ++ [.str "late"])) = st2 at *
  have c0 : evE (callN P wf (k + 2)) (.isi .dict (.var 0)) [some (.cell c), none, none] st = .ok (.bl false) st := by simp [ofE, evE, evEs, evSs, evS, evO, evC, M.bind, M.ret, M.opt, M.fail, cmpW, eqW, asInt, asBl, asStr, asTup, asLst, asSeq, asDct, thenS, binW, iBin, fin, mkLst, quiet, asgT, asgTs, slotSet, Tgs.len, primW, mthW, mthTy, isTy, isTys, subW, setW, allOpt, startW, h]
  have c1 : evE (callN P wf (k + 2)) (.isiT [.list, .tuple] (.var 0)) [some (.cell c), none, none] st = .ok (.bl true) st := by simp [ofE, evE, evEs, evSs, evS, evO, evC, M.bind, M.ret, M.opt, M.fail, cmpW, eqW, asInt, asBl, asStr, asTup, asLst, asSeq, asDct, thenS, binW, iBin, fin, mkLst, quiet, asgT, asgTs, slotSet, Tgs.len, primW, mthW, mthTy, isTy, isTys, subW, setW, allOpt, startW, h]
  have c2 : evE (callN P wf (k + 2)) (.isi .list (.var 0)) [some (.cell c), none, some (.cell b)] st2 = .ok (.bl true) st2 := by simp [ofE, evE, evEs, evSs, evS, evO, evC, M.bind, M.ret, M.opt, M.fail, cmpW, eqW, asInt, asBl, asStr, asTup, asLst, asSeq, asDct, thenS, binW, iBin, fin, mkLst, quiet, asgT, asgTs, slotSet, Tgs.len, primW, mthW, mthTy, isTy, isTys, subW, setW, allOpt, startW, hc2]
  have c3 : evE (callN P wf (k + 2)) (.mt .append (.var 0) (.cons (.str "late") .nil)) [some (.cell c), none, some (.cell b)] st2 = .ok .non (st2.set c (.lst [.cell a, .cell b, .str "late"])) := by simp [ofE, evE, evEs, evSs, evS, evO, evC, M.bind, M.ret, M.opt, M.fail, cmpW, eqW, asInt, asBl, asStr, asTup, asLst, asSeq, asDct, thenS, binW, iBin, fin, mkLst, quiet, asgT, asgTs, slotSet, Tgs.len, primW, mthW, mthTy, isTy, isTys, subW, setW, allOpt, startW, hc2, LIM]
  have eit : evIt (callN P wf (k + 2)) (.seq (.var 0)) [some (.cell c), none, none] st = .ok (.one (.live c 2)) st := by simp [evIt, ofE, evE, evEs, evSs, evS, evO, evC, M.bind, M.ret, M.opt, M.fail, cmpW, eqW, asInt, asBl, asStr, asTup, asLst, asSeq, asDct, thenS, binW, iBin, fin, mkLst, quiet, asgT, asgTs, slotSet, Tgs.len, primW, mthW, mthTy, isTy, isTys, subW, setW, allOpt, startW, src1, h]
  have eL : forL (.one (.live c 2)) (asgT (callN P wf (k + 2)) (.name 2)) (evSs (callN P wf (k + 2)) wf (.cons (.expr (.call id (.cons (.var 2) .nil) [])) .nil)) 2 0 [some (.cell c), none, none] st = .ok (.nx [some (.cell c), none, some (.cell b)]) st2 := by
    have b1 : evSs (callN P wf (k + 2)) wf (.cons (.expr (.call id (.cons (.var 2) .nil) [])) .nil) [some (.cell c), none, some (.cell a)] st = .ok (.nx [some (.cell c), none, some (.cell a)]) st1 := by simp [ofE, evE, evEs, evSs, evS, evO, evC, M.bind, M.ret, M.opt, M.fail, cmpW, eqW, asInt, asBl, asStr, asTup, asLst, asSeq, asDct, thenS, binW, iBin, fin, mkLst, quiet, asgT, asgTs, slotSet, Tgs.len, primW, mthW, mthTy, isTy, isTys, subW, setW, allOpt, startW, e1]
    have b2 : evSs (callN P wf (k + 2)) wf (.cons (.expr (.call id (.cons (.var 2) .nil) [])) .nil) [some (.cell c), none, some (.cell b)] st1 = .ok (.nx [some (.cell c), none, some (.cell b)]) st2 := by simp [ofE, evE, evEs, evSs, evS, evO, evC, M.bind, M.ret, M.opt, M.fail, cmpW, eqW, asInt, asBl, asStr, asTup, asLst, asSeq, asDct, thenS, binW, iBin, fin, mkLst, quiet, asgT, asgTs, slotSet, Tgs.len, primW, mthW, mthTy, isTy, isTys, subW, setW, allOpt, startW, e2]
    simp only [forL, Src.at, Src1.at, Src.fin, Src1.fin, h, hc1, hc2, ofE, quiet, asgT, M.ret, slotSet]
    simp [List.set, b1, b2, hc1, hc2]
  have eS : evS (callN P wf (k + 2)) wf (.ife (.isiT [.list, .tuple] (.var 0)) (.cons (spoiltF id) .nil) .nil) [some (.cell c), none, none] st = .ok (.nx [some (.cell c), none, some (.cell b)]) st2 := by
    rw [ife_t c1]
    exact (seq_nx (forS eit eL)).trans seq_nil
  refine ⟨st2.set c (.lst [.cell a, .cell b, .str "late"]), ?_, by simp [len2], fun i h1 h2 h3 => by rw [set_other (Ne.symm h3)]; exact at2 i h1 h2 h3⟩
  refine call_nx (sl := [some (.cell c), none, some (.cell b)]) hf rfl ?_
  show evSs _ wf (spoiltD id).body [some (.cell c), none, none] st = _
  unfold spoiltD
  simp only []
  rw [seq_nx ((ife_f c0).trans seq_nil), seq_nx eS]
  exact (seq_nx ((ife_t c2).trans ((seq_nx (expr_ok c3)).trans seq_nil))).trans seq_nil
end
end MP
/-! MP22: a for that may return; the last cell. -/
namespace MP
open PySem
section
variable {C : Nat → List W → M W} {wf : Nat}
/-- a for that changes nothing but names, and returns what f first gives -/
theorem for_find {src : Src} {g : W → Slots → M Slots} {b : Slots → MS} {st : Store} (f : Nat → Option W) (J : Slots → Prop)
    (hI : ∀ i sl, i < src.len → J sl → ∃ x sl1, src.at st i = some x ∧ g x sl st = .ok sl1 st ∧ (match f i with | some w => b sl1 st = .ok (.rt w) st | none => ∃ sl2, b sl1 st = .ok (.nx sl2) st ∧ J sl2)) (hf : src.fin st = true) :
    ∀ r i sl, i + r = src.len → J sl → (match (List.range' i r).findSome? f with | some w => forL src g b r i sl st = .ok (.rt w) st | none => ∃ sl', forL src g b r i sl st = .ok (.nx sl') st ∧ J sl') := by
  intro r
  induction r with
  | zero => intro i sl h hj; exact ⟨sl, by dsimp only [forL]; rw [if_pos hf], hj⟩
  | succ r ih =>
    intro i sl h hj
    obtain ⟨x, sl1, h1, h2, h3⟩ := hI i sl (by omega) hj
    rw [List.range'_succ, List.findSome?_cons]
    cases e : f i with
    | some w =>
      rw [e] at h3
      simp only
      dsimp only [forL]
      unfold ofE quiet
      simp only [h1, h2, h3]
    | none =>
      rw [e] at h3
      obtain ⟨sl2, h4, h5⟩ := h3
      have := ih (i + 1) sl2 (by omega) h5
      simp only
      have e2 : forL src g b (r + 1) i sl st = forL src g b r (i + 1) sl2 st := by
        conv => lhs; dsimp only [forL]
        unfold ofE quiet
        simp only [h1, h2, h4]
      rw [e2]
      exact this
theorem for_rt {t : Tg} {it : It} {b : Ss} {sl : Slots} {st st1 st' : Store} {src : Src} {w : W} (h : evIt C it sl st = .ok src st1) (h2 : forL src (asgT C t) (evSs C wf b) src.len 0 sl st1 = .ok (.rt w) st') : evS C wf (.for t it b) sl st = .ok (.rt w) st' := by
  dsimp only [evS]; unfold ofE; simp only [h]; exact h2
theorem while_rt {e : E} {b : Ss} {sl : Slots} {st st' : Store} {w : W} (h : whileL (evE C e) (evSs C wf b) wf sl st = .ok (.rt w) st') : evS C wf (.while e b) sl st = .ok (.rt w) st' := h
theorem set_last {st : Store} {x y : Cell} : (st ++ [x]).set st.length y = st ++ [y] := by
  rw [List.set_append_right _ _ (Nat.le_refl _)]; simp
theorem get_last {st : Store} {x : Cell} : (st ++ [x])[st.length]? = some x := by rw [List.getElem?_append_right (Nat.le_refl _)]; simp
theorem rg1a {n : Nat} (hl : n ≤ LIM) : rangeOf [.int (n : Int)] = some (0, 1, n) := rg1 hl
theorem rg2a {i j : Int} (h1 : -(2 ^ 40) < i) (h2 : i < 2 ^ 40) (h3 : -(2 ^ 40) < j) (h4 : j < 2 ^ 40) : rangeOf [.int i, .int j] = some (i, 1, (j - i).toNat) := by
  unfold rangeOf
  simp only []
  rw [if_pos (by simp only [Bool.and_eq_true, decide_eq_true_eq]; exact ⟨⟨⟨h1, h2⟩, h4⟩, h3⟩)]
theorem rg3a {i j : Int} (h1 : -(2 ^ 40) < i) (h2 : i < 2 ^ 40) (h3 : -(2 ^ 40) < j) (h4 : j < 2 ^ 40) : rangeOf [.int i, .int j, .int (-1)] = some (i, -1, (i - j).toNat) := by
  unfold rangeOf
  simp only []
  rw [if_pos (by simp only [Bool.and_eq_true, decide_eq_true_eq]; exact ⟨⟨⟨⟨h1, h2⟩, h4⟩, h3⟩, trivial⟩)]
theorem evIt_rng2 {e1 e2 : E} {sl : Slots} {st st1 st2 : Store} {w1 w2 : W} {r : Int × Int × Nat} (h1 : evE C e1 sl st = .ok w1 st1) (h2 : evE C e2 sl st1 = .ok w2 st2) (hr : rangeOf [w1, w2] = some r) : evIt C (.range (.cons e1 (.cons e2 .nil))) sl st = .ok (.rng r.1 r.2.1 r.2.2) st2 := by
  have h3 : evEs C (.cons e2 .nil) sl st1 = .ok [w2] st2 := by
    show M.bind (evE C e2 sl) _ st1 = _
    unfold M.bind
    simp only [h2]
    rfl
  have h4 : evEs C (.cons e1 (.cons e2 .nil)) sl st = .ok [w1, w2] st2 := by
    show M.bind (evE C e1 sl) (fun x => M.bind (evEs C (.cons e2 .nil) sl) fun xs => M.ret (x :: xs)) st = _
    unfold M.bind
    simp only [h1, h3]
    rfl
  show M.bind (evEs C (.cons e1 (.cons e2 .nil)) sl) (fun ws => M.opt ((rangeOf ws).map fun r => Src.rng r.1 r.2.1 r.2.2)) st = _
  unfold M.bind
  simp only [h4]
  rw [hr]
  rfl
theorem evIt_rng3 {e1 e2 e3 : E} {sl : Slots} {st st1 st2 st3 : Store} {w1 w2 w3 : W} {r : Int × Int × Nat} (h1 : evE C e1 sl st = .ok w1 st1) (h2 : evE C e2 sl st1 = .ok w2 st2) (h3 : evE C e3 sl st2 = .ok w3 st3) (hr : rangeOf [w1, w2, w3] = some r) : evIt C (.range (.cons e1 (.cons e2 (.cons e3 .nil)))) sl st = .ok (.rng r.1 r.2.1 r.2.2) st3 := by
  have g3 : evEs C (.cons e3 .nil) sl st2 = .ok [w3] st3 := by
    show M.bind (evE C e3 sl) _ st2 = _
    unfold M.bind
    simp only [h3]
    rfl
  have g2 : evEs C (.cons e2 (.cons e3 .nil)) sl st1 = .ok [w2, w3] st3 := by
    show M.bind (evE C e2 sl) (fun x => M.bind (evEs C (.cons e3 .nil) sl) fun xs => M.ret (x :: xs)) st1 = _
    unfold M.bind
    simp only [h2, g3]
    rfl
  have g1 : evEs C (.cons e1 (.cons e2 (.cons e3 .nil))) sl st = .ok [w1, w2, w3] st3 := by
    show M.bind (evE C e1 sl) (fun x => M.bind (evEs C (.cons e2 (.cons e3 .nil)) sl) fun xs => M.ret (x :: xs)) st = _
    unfold M.bind
    simp only [h1, g2]
    rfl
  show M.bind (evEs C (.cons e1 (.cons e2 (.cons e3 .nil))) sl) (fun ws => M.opt ((rangeOf ws).map fun r => Src.rng r.1 r.2.1 r.2.2)) st = _
  unfold M.bind
  simp only [g1]
  rw [hr]
  rfl
end
end MP
namespace Lk76
open PySem PySem.Spec PyProof.Rows L2 MP
def d_is_list : Fn := ⟨0, "is_list", ["thing"], 1,
  (.cons (.ret (.isiT [.list, .tuple] (.var 0))) .nil)⟩
def d_is_whole : Fn := ⟨1, "is_whole", ["thing"], 1,
  (.cons (.ret (.and (.isi .int (.var 0)) (.not (.isi .bool (.var 0))))) .nil)⟩
def d_is_number : Fn := ⟨2, "is_number", ["thing"], 1,
  (.cons (.ret (.and (.call 1 (.cons (.var 0) .nil) []) (.cmp .ge (.var 0) (.int 0)))) .nil)⟩
def d_is_index : Fn := ⟨3, "is_index", ["thing", "many"], 2,
  (.cons (.ret (.and (.call 2 (.cons (.var 0) .nil) []) (.cmp .lt (.var 0) (.var 1)))) .nil)⟩
def d_check_bottom : Fn := ⟨4, "check_bottom", ["bottom"], 1,
  (.cons (.ife (.or (.not (.call 1 (.cons (.var 0) .nil) [])) (.cmp .lt (.var 0) (.int 1))) (.cons .never .nil) .nil) .nil)⟩
def d_check_points : Fn := ⟨5, "check_points", ["bottom", "points", "wrong", "index", "point"], 2,
  (.cons (.expr (.call 4 (.cons (.var 0) .nil) []))
  (.cons (.ife (.or (.not (.call 0 (.cons (.var 1) .nil) [])) (.cmp .eq (.bi false .len (.cons (.var 1) .nil)) (.int 0))) (.cons .never .nil) .nil)
  (.cons (.asg (.name 2) (.lc false [3, 4] (.tup (.cons (.name 3) (.cons (.name 4) .nil))) (.enum (.var 1)) (.some (.not (.call 3 (.cons (.var 4) (.cons (.var 0) .nil)) []))) (.var 3)))
  (.cons (.ife (.cmp .ne (.var 2) (.lst false .nil)) (.cons .never .nil) .nil) .nil))))⟩
def d_check_many : Fn := ⟨6, "check_many", ["many"], 1,
  (.cons (.ife (.or (.not (.call 1 (.cons (.var 0) .nil) [])) (.cmp .lt (.var 0) (.int 1))) (.cons .never .nil) .nil) .nil)⟩
def d_first_clash : Fn := ⟨7, "first_clash", ["bottom", "points", "many", "parts", "one", "other", "point"], 3,
  (.cons (.asg (.name 3) (.lc false [6] (.name 6) (.seq (.slice false (.var 1) .none (.some (.var 2)))) .none (.bin false .fdiv (.bin false .mul (.var 6) (.var 2)) (.var 0))))
  (.cons (.for (.name 4) (.range (.cons (.var 2) .nil)) (.cons (.for (.name 5) (.range (.cons (.bin false .add (.var 4) (.int 1)) (.cons (.var 2) .nil))) (.cons (.ife (.cmp .eq (.sub (.var 3) (.var 4)) (.sub (.var 3) (.var 5))) (.cons (.ret (.tup (.cons (.var 4) (.cons (.var 5) .nil)))) .nil) .nil) .nil)) .nil))
  (.cons (.ret .non) .nil)))⟩
def d_beginning_fault : Fn := ⟨8, "beginning_fault", ["bottom", "points", "many", "pair"], 2,
  (.cons (.expr (.call 5 (.cons (.var 0) (.cons (.var 1) .nil)) []))
  (.cons (.for (.name 2) (.range (.cons (.int 1) (.cons (.bin false .add (.bi false .len (.cons (.var 1) .nil)) (.int 1)) .nil))) (.cons (.asg (.name 3) (.call 7 (.cons (.var 0) (.cons (.var 1) (.cons (.var 2) .nil))) [])) (.cons (.ife (.cmp .notn (.var 3) .non) (.cons (.ret (.tup (.cons (.var 2) (.cons (.sub (.var 3) (.int 0)) (.cons (.sub (.var 3) (.int 1)) .nil))))) .nil) .nil) .nil)))
  (.cons (.ret .non) .nil)))⟩
def d_fair_line : Fn := ⟨9, "fair_line", ["bottom", "many", "way", "here"], 2,
  (.cons (.expr (.call 4 (.cons (.var 0) .nil) []))
  (.cons (.expr (.call 6 (.cons (.var 1) .nil) []))
  (.cons (.asg (.tup (.cons (.name 2) (.cons (.name 3) .nil))) (.tup (.cons (.lst true .nil) (.cons (.int 0) .nil))))
  (.cons (.while (.cmp .lt (.bi false .len (.cons (.var 2) .nil)) (.var 1)) (.cons (.ife (.cmp .eq (.var 3) (.var 0)) (.cons (.ife (.cmp .eq (.var 2) (.lst false .nil)) (.cons (.ret .non) .nil) .nil) (.cons (.asg (.name 3) (.bin true .add (.mt .pop (.var 2) .nil) (.int 1))) .nil)) (.cons (.ife (.cmp .isn (.call 7 (.cons (.var 0) (.cons (.lst false (.star (.var 2) (.cons (.var 3) .nil))) (.cons (.bin false .add (.bi false .len (.cons (.var 2) .nil)) (.int 1)) .nil))) []) .non) (.cons (.expr (.mt .append (.var 2) (.cons (.var 3) .nil))) (.cons (.asg (.name 3) (.int 0)) .nil)) (.cons (.asg (.name 3) (.bin true .add (.var 3) (.int 1))) .nil)) .nil)) .nil))
  (.cons (.ret (.var 2)) .nil)))))⟩
def d__law_stream : Fn := streamD 10
def d__law_draw : Fn := drawD 11
def d__law_pick : Fn := pickD 12 11
def d__law_same : Fn := sameD 13
def d__law_loose : Fn := looseD 14 11
def d__law_spoilt : Fn := spoiltD 15
def d__law_clash : Fn := ⟨16, "_law_clash", ["bottom", "points", "many", "one", "other"], 3,
  (.cons (.for (.name 3) (.range (.cons (.var 2) .nil)) (.cons (.for (.name 4) (.range (.cons (.bin false .add (.var 3) (.int 1)) (.cons (.var 2) .nil))) (.cons (.ife (.cmp .eq (.bin false .fdiv (.bin false .mul (.sub (.var 1) (.var 3)) (.var 2)) (.var 0)) (.bin false .fdiv (.bin false .mul (.sub (.var 1) (.var 4)) (.var 2)) (.var 0))) (.cons (.ret (.tup (.cons (.var 3) (.cons (.var 4) .nil)))) .nil) .nil) .nil)) .nil))
  (.cons (.ret .non) .nil))⟩
def d__law_beginning_fault : Fn := ⟨17, "_law_beginning_fault", ["bottom", "points", "many", "pair"], 2,
  (.cons (.for (.name 2) (.range (.cons (.int 1) (.cons (.bin false .add (.bi false .len (.cons (.var 1) .nil)) (.int 1)) .nil))) (.cons (.asg (.name 3) (.call 16 (.cons (.var 0) (.cons (.var 1) (.cons (.var 2) .nil))) [])) (.cons (.ife (.cmp .notn (.var 3) .non) (.cons (.ret (.tup (.cons (.var 2) (.cons (.sub (.var 3) (.int 0)) (.cons (.sub (.var 3) (.int 1)) .nil))))) .nil) .nil) .nil)))
  (.cons (.ret .non) .nil))⟩
def d__law_line : Fn := ⟨18, "_law_line", ["bottom", "many", "ways", "way", "point"], 2,
  (.cons (.asg (.name 2) (.lst true (.cons (.lst false .nil) .nil)))
  (.cons (.while (.cmp .ne (.var 2) (.lst false .nil)) (.cons (.asg (.name 3) (.mt .pop (.var 2) .nil)) (.cons (.ife (.cmp .eq (.bi false .len (.cons (.var 3) .nil)) (.var 1)) (.cons (.ret (.var 3)) .nil) .nil) (.cons (.for (.name 4) (.range (.cons (.bin false .sub (.var 0) (.int 1)) (.cons (.neg (.int 1)) (.cons (.neg (.int 1)) .nil)))) (.cons (.ife (.cmp .isn (.call 16 (.cons (.var 0) (.cons (.bin false .add (.var 3) (.lst false (.cons (.var 4) .nil))) (.cons (.bin false .add (.bi false .len (.cons (.var 3) .nil)) (.int 1)) .nil))) []) .non) (.cons (.expr (.mt .append (.var 2) (.cons (.bin false .add (.var 3) (.lst false (.cons (.var 4) .nil))) .nil))) .nil) .nil) .nil)) .nil))))
  (.cons (.ret .non) .nil)))⟩
def d_law : Fn := ⟨19, "law", ["script", "turn", "stream", "bottom", "many", "due", "told", "again", "points", "handed", "fault", "look", "found", "at"], 1,
  (.cons (.for (.name 1) (.range (.cons (.int 5) .nil)) (.cons (.asg (.name 2) (.call 10 (.cons (.bin false .add (.bi false .list (.cons (.var 0) .nil)) (.lst false (.cons (.var 1) .nil))) .nil) [])) (.cons (.asg (.tup (.cons (.name 3) (.cons (.name 4) .nil))) (.tup (.cons (.bin false .add (.int 1) (.call 11 (.cons (.var 2) (.cons (.call 12 (.cons (.var 2) (.cons (.lst false (.cons (.int 3) (.cons (.int 8) (.cons (.int 30) .nil)))) .nil)) []) .nil)) [])) (.cons (.bin false .add (.int 1) (.call 11 (.cons (.var 2) (.cons (.int 8) .nil)) [])) .nil)))) (.cons (.asg (.name 5) (.call 18 (.cons (.var 3) (.cons (.var 4) .nil)) [])) (.cons (.asg (.name 6) (.lst true (.cons (.call 9 (.cons (.var 3) (.cons (.var 4) .nil)) []) (.cons (.callK 9 .nil (.cons (.var 4) (.cons (.var 3) .nil)) [1, 0]) .nil)))) (.cons (.ife (.not (.call 13 (.cons (.var 6) (.cons (.lst false (.cons (.var 5) (.cons (.var 5) .nil))) .nil)) [])) (.cons (.ret (.bl false)) .nil) .nil) (.cons (.ife (.cmp .notn (.var 5) .non) (.cons (.expr (.call 15 (.cons (.var 6) .nil) [])) (.cons (.ife (.not (.call 13 (.cons (.lst false (.cons (.call 9 (.cons (.var 3) (.cons (.var 4) .nil)) []) (.cons (.call 8 (.cons (.var 3) (.cons (.bi false .list (.cons (.var 5) .nil)) .nil)) []) .nil))) (.cons (.lst false (.cons (.var 5) (.cons .non .nil))) .nil)) [])) (.cons (.ret (.bl false)) .nil) .nil) .nil)) .nil) (.cons (.for (.name 7) (.range (.cons (.int 5) .nil)) (.cons (.asg (.name 8) (.lc true [13] (.name 13) (.range (.cons (.bin false .add (.int 1) (.call 11 (.cons (.var 2) (.cons (.int 8) .nil)) [])) .nil)) .none (.call 11 (.cons (.var 2) (.cons (.var 3) .nil)) []))) (.cons (.ife (.and (.cmp .notn (.var 5) .non) (.cmp .lt (.var 7) (.int 3))) (.cons (.asg (.name 8) (.bi true .list (.cons (.var 5) .nil))) (.cons (.asg (.sub (.var 8) (.call 11 (.cons (.var 2) (.cons (.var 4) .nil)) [])) (.call 11 (.cons (.var 2) (.cons (.var 3) .nil)) [])) .nil)) .nil) (.cons (.asg (.tup (.cons (.name 9) (.cons (.name 10) .nil))) (.tup (.cons (.call 14 (.cons (.var 2) (.cons (.var 8) .nil)) []) (.cons (.call 17 (.cons (.var 3) (.cons (.var 8) .nil)) []) .nil)))) (.cons (.asg (.tup (.cons (.name 11) (.cons (.name 12) .nil))) (.tup (.cons (.bi false .repr (.cons (.var 9) .nil)) (.cons (.lst true (.cons (.call 8 (.cons (.var 3) (.cons (.var 9) .nil)) []) .nil)) .nil)))) (.cons (.expr (.mt .append (.var 12) (.cons (.callK 8 .nil (.cons (.bi false .list (.cons (.var 8) .nil)) (.cons (.var 3) .nil)) [1, 0]) .nil))) (.cons (.ife (.or (.not (.call 13 (.cons (.var 12) (.cons (.lst false (.cons (.var 10) (.cons (.var 10) .nil))) .nil)) [])) (.cmp .ne (.bi false .repr (.cons (.var 9) .nil)) (.var 11))) (.cons (.ret (.bl false)) .nil) .nil) .nil))))))) .nil))))))))
  (.cons (.ret (.bl true)) .nil))⟩
def prog : List Fn := [d_is_list, d_is_whole, d_is_number, d_is_index, d_check_bottom, d_check_points, d_check_many, d_first_clash, d_beginning_fault, d_fair_line, d__law_stream, d__law_draw, d__law_pick, d__law_same, d__law_loose, d__law_spoilt, d__law_clash, d__law_beginning_fault, d__law_line, d_law]
def T : PT0 := ⟨prog, [(8, 0, ["points", "bottom"], [1, 0]), (9, 0, ["many", "bottom"], [1, 0])], fun _ => ""⟩
abbrev prog0 : Program := PySem.Challenge.pw_sidestaken_k76_whole_points_fair_from_th
def top (i : Nat) : Stmt := prog0.main.body.getD i (.Pass ⟨0, 0, 0, 0⟩)
def defD (i : Nat) : He.DefD := match top i with
  | .FunctionDef n a b _ _ _ sc _ _ _ => ⟨(n, none), n, n, a, b, sc, [], []⟩
  | _ => ⟨("", none), "", "", ⟨[], [], none, [], [], none, []⟩, [], ⟨.function, [], false, false, []⟩, [], []⟩
def ds : List He.DefD := [1, 2, 3, 4, 12, 13, 14, 15, 16, 17, 19, 20, 21, 22, 23, 24, 25, 26, 27, 28].map defD
def names0 : List PySem.Str := ["is_list", "is_whole", "is_number", "is_index", "SideError", "BadNumber", "BadBottom", "BadPoints", "check_bottom", "check_points", "check_many", "first_clash", "beginning_fault", "fair_line", "_law_stream", "_law_draw", "_law_pick", "_law_same", "_law_loose", "_law_spoilt", "_law_clash", "_law_beginning_fault", "_law_line"]
def names : List PySem.Str := names0
abbrev R : PySem.W.OpenRow := PySem.W.OpenLaw.row PySem.Challenge.rw_sidestaken_k76_whole_points_fair_from_th
abbrev hk : PySem.W.Hook := He.hookD 4 (fas ds) ds
def ob (s : PySem.W.SharedT) : He.AlD := He.obsDG 4 (fas ds) ds (HandSHeadRun.getT s)
theorem ob_eq (s : PySem.W.SharedT) : ob s = hk.obs s.abs := He.obsDG_eq (HandSHeadRun.getT_eq s)
theorem okD : okDefs T 0 prog ds = true := by kernel_rfl
theorem okK : okKb T = true := by kernel_rfl
end Lk76
namespace Lk76
open PySem MP
section
variable {wf k : Nat} {st : Store}
theorem whole (i : Int) : callN prog wf (k + 1) 1 [.int i] st = .ok (.bl true) st := call_rt (d := d_is_whole) rfl rfl (by simp [d_is_whole, ofE, evE, evEs, evSs, evS, evO, evC, M.bind, M.ret, M.opt, M.fail, cmpW, eqW, asInt, asBl, asStr, asTup, asLst, asSeq, asDct, thenS, binW, iBin, fin, mkLst, quiet, asgT, asgTs, slotSet, Tgs.len, primW, mthW, mthTy, isTy, isTys, subW, setW, allOpt, startW])
theorem number {i : Int} (h : 0 ≤ i) : callN prog wf (k + 2) 2 [.int i] st = .ok (.bl true) st := call_rt (d := d_is_number) rfl rfl (by
  have e := whole (wf := wf) (k := k) (st := st) i
  simp [d_is_number, ofE, evE, evEs, evSs, evS, evO, evC, M.bind, M.ret, M.opt, M.fail, cmpW, eqW, asInt, asBl, asStr, asTup, asLst, asSeq, asDct, thenS, binW, iBin, fin, mkLst, quiet, asgT, asgTs, slotSet, Tgs.len, primW, mthW, mthTy, isTy, isTys, subW, setW, allOpt, startW, e, h])
theorem index {i m : Int} (h : 0 ≤ i) (h2 : i < m) : callN prog wf (k + 3) 3 [.int i, .int m] st = .ok (.bl true) st := call_rt (d := d_is_index) rfl rfl (by
  have e := number (wf := wf) (k := k) (st := st) h
  simp [d_is_index, ofE, evE, evEs, evSs, evS, evO, evC, M.bind, M.ret, M.opt, M.fail, cmpW, eqW, asInt, asBl, asStr, asTup, asLst, asSeq, asDct, thenS, binW, iBin, fin, mkLst, quiet, asgT, asgTs, slotSet, Tgs.len, primW, mthW, mthTy, isTy, isTys, subW, setW, allOpt, startW, e, h2])
theorem chkMany {b : Int} (h : 1 ≤ b) : callN prog wf (k + 2) 6 [.int b] st = .ok .non st := call_nx (d := d_check_many) (sl := [some (.int b)]) rfl rfl (by
  have e := whole (wf := wf) (k := k) (st := st) b
  have h2 : ¬ b < 1 := by omega
  simp [d_check_many, ofE, evE, evEs, evSs, evS, evO, evC, M.bind, M.ret, M.opt, M.fail, cmpW, eqW, asInt, asBl, asStr, asTup, asLst, asSeq, asDct, thenS, binW, iBin, fin, mkLst, quiet, asgT, asgTs, slotSet, Tgs.len, primW, mthW, mthTy, isTy, isTys, subW, setW, allOpt, startW, e, h2])
theorem chkBottom {b : Int} (h : 1 ≤ b) : callN prog wf (k + 2) 4 [.int b] st = .ok .non st := call_nx (d := d_check_bottom) (sl := [some (.int b)]) rfl rfl (by
  have e := whole (wf := wf) (k := k) (st := st) b
  have h2 : ¬ b < 1 := by omega
  simp [d_check_bottom, ofE, evE, evEs, evSs, evS, evO, evC, M.bind, M.ret, M.opt, M.fail, cmpW, eqW, asInt, asBl, asStr, asTup, asLst, asSeq, asDct, thenS, binW, iBin, fin, mkLst, quiet, asgT, asgTs, slotSet, Tgs.len, primW, mthW, mthTy, isTy, isTys, subW, setW, allOpt, startW, e, h2])
theorem cut_take {α : Type} {xs : List α} {m : Nat} (h : m ≤ xs.length) : cutW xs none (some (m : Int)) = xs.take m := by
  unfold cutW
  have h1 : HT.sIx xs.length 0 none = 0 := rfl
  have h2 : HT.sIx xs.length xs.length (some (m : Int)) = m := by rw [HT.sIx_nat]; omega
  rw [h1, h2]
  simp
/-- the part of the i-th point of m -/
def pt (b : Int) (l : List Int) (m i : Nat) : Int := l.getD i 0 * m / b
def rowC (m : Nat) (p : Nat → Int) (i : Nat) : Option W := (List.range' 0 (m - (i + 1))).findSome? fun d => if p i = p (i + 1 + d) then some (.tup [.int i, .int ((i + 1 + d : Nat) : Int)]) else none
def clash (m : Nat) (p : Nat → Int) : Option W := (List.range' 0 m).findSome? (rowC m p)
def clB : Ss := .cons (.ife (.cmp .eq (.sub (.var 3) (.var 4)) (.sub (.var 3) (.var 5))) (.cons (.ret (.tup (.cons (.var 4) (.cons (.var 5) .nil)))) .nil) .nil) .nil
theorem sub_list {ws : List W} {i : Nat} {x : W} (h : ws[i]? = some x) : subW st (.lst ws) (.int (i : Int)) = some x := by
  show L2.atI ws (i : Int) = some x
  have hi := lt_of_get h
  unfold L2.atI L2.ixN
  simp [hi]
  have := (List.getElem?_eq_getElem hi).symm.trans h
  exact Option.some.inj this
theorem sub_seq {w : W} {ws : List W} {i : Nat} {x : W} (hw : asSeq st w = some ws) (h : ws[i]? = some x) : subW st w (.int (i : Int)) = some x := by
  have e : L2.atI ws (i : Int) = some x := sub_list (st := st) h
  cases w <;> first | (cases hw; done) | (simp only [subW, hw, e])
theorem log_small {c : Int} (hc : 0 < c) (h2 : c < 2 ^ 41) : c.natAbs.log2 < 9000 := by
  have : c.natAbs.log2 < 64 := (Nat.log2_lt (by omega)).mpr (by omega)
  omega
theorem small_mul {i j : Int} (h : j.natAbs < 2 ^ 64) : mulOk i j = true := by unfold mulOk; simp [h]
theorem firstClash {b : Int} {w : W} {l : List Int} {m : Nat} (hb : 1 ≤ b) (hb2 : b < 2 ^ 41) (hw : asSeq st w = some (l.map .int)) (hm : m ≤ l.length) (hl : l.length ≤ 1000) (hns : ∀ ns, w ≠ .scr ns) : callN prog wf (k + 1) 7 [.int b, w, .int m] st = .ok ((clash m (pt b l m)).getD .non) st := by
  have hL : LIM = 1000000 := rfl
  have lg := log_small (c := b) (by omega) hb2
  have hb0 : 0 < b := by omega
  have m1 : ∀ x : Int, mulOk x (m : Int) = true := fun x => small_mul (by omega)
  -- the slice
  obtain ⟨w', e1, hw'⟩ : ∃ w', sliceW st w none (some (m : Int)) = some w' ∧ asSeq st w' = some ((l.take m).map .int) := by
    have ct : cutW (l.map W.int) none (some (m : Int)) = (l.take m).map W.int := by rw [cut_take (by simpa using hm), List.map_take]
    cases w with
    | tup ws => cases hw; exact ⟨_, rfl, by show some (cutW (l.map W.int) none (some (m : Int))) = _; rw [ct]⟩
    | cell c => exact ⟨.lst ((l.take m).map .int), by show (asLst st (.cell c)).map _ = _; rw [show asLst st (.cell c) = some (l.map .int) from hw]; show some (W.lst (cutW _ _ _)) = _; rw [ct], rfl⟩
    | lst ws => cases hw; exact ⟨_, rfl, by show some (cutW (l.map W.int) none (some (m : Int))) = _; rw [ct]⟩
    | scr ns => exact absurd rfl (hns ns)
    | _ => cases hw
  have e2 : evE (callN prog wf k) (.lc false [6] (.name 6) (.seq (.slice false (.var 1) .none (.some (.var 2)))) .none (.bin false .fdiv (.bin false .mul (.var 6) (.var 2)) (.var 0))) [some (.int b), some w, some (.int m), none, none, none, none] st = .ok (.lst ((l.take m).map fun x => .int (x * m / b))) st := by
    rw [lc_seq (w := w') (ws := (l.take m).map .int) (g := fun x => match x with | .int x => .int (x * m / b) | _ => .non) (by
      show M.bind _ _ st = _
      simp only [evE, evO, M.bind, M.ret, M.opt, asInt, Option.map_some]
      simp [M.opt, e1]
      cases w' <;> rfl) hw' (by simp; omega) (fun x hx => by
      obtain ⟨y, hy, rfl⟩ := List.mem_map.mp hx
      simp [stepW, wipeW, ofE, evE, evEs, evSs, evS, evO, evC, M.bind, M.ret, M.opt, M.fail, cmpW, eqW, asInt, asBl, asStr, asTup, asLst, asSeq, asDct, thenS, binW, iBin, fin, mkLst, quiet, asgT, asgTs, slotSet, Tgs.len, primW, mthW, mthTy, isTy, isTys, subW, setW, allOpt, startW, m1, lg, hb0])]
    rw [List.map_map]
    rfl
  refine call_ok (d := d_first_clash) rfl rfl ?_
  show backR (evSs _ wf d_first_clash.body [some (.int b), some w, some (.int m), none, none, none, none] st) = _
  unfold d_first_clash
  simp only []
  rw [seq_nx (asgN_ok e2)]
  show backR (evSs _ wf _ [some (.int b), some w, some (.int m), some (.lst ((l.take m).map fun x => .int (x * m / b))), none, none, none] st) = _
  have get : ∀ i, i < m → ((l.take m).map fun x => W.int (x * m / b))[i]? = some (.int (pt b l m i)) := fun i hi => by
    have h1 : i < l.length := by omega
    rw [List.getElem?_map, List.getElem?_take, if_pos hi, List.getElem?_eq_getElem h1]
    simp [pt, h1]
  generalize ((l.take m).map fun x => W.int (x * m / b)) = ps at get ⊢
  have inner : ∀ i, i < m → ∀ x5 x6, ∃ r, (match rowC m (pt b l m) i with | some v => r = ResS.ok (.rt v) st | none => ∃ y5, r = .ok (.nx [some (.int b), some w, some (.int m), some (.lst ps), some (.int i), y5, x6]) st) ∧ evS (callN prog wf k) wf (.for (.name 5) (.range (.cons (.bin false .add (.var 4) (.int 1)) (.cons (.var 2) .nil))) clB) [some (.int b), some w, some (.int m), some (.lst ps), some (.int i), x5, x6] st = r := by
    intro i hi x5 x6
    have eit : evIt (callN prog wf k) (.range (.cons (.bin false .add (.var 4) (.int 1)) (.cons (.var 2) .nil))) [some (.int b), some w, some (.int m), some (.lst ps), some (.int i), x5, x6] st = .ok (.rng ((i : Int) + 1) 1 (m - (i + 1))) st := by
      have := evIt_rng2 (C := callN prog wf k) (e1 := .bin false .add (.var 4) (.int 1)) (e2 := .var 2) (sl := [some (.int b), some w, some (.int m), some (.lst ps), some (.int i), x5, x6]) (st := st) (st1 := st) (st2 := st) (w1 := .int ((i : Int) + 1)) (w2 := .int m) (by simp [ofE, evE, evEs, evSs, evS, evO, evC, M.bind, M.ret, M.opt, M.fail, cmpW, eqW, asInt, asBl, asStr, asTup, asLst, asSeq, asDct, thenS, binW, iBin, fin, mkLst, quiet, asgT, asgTs, slotSet, Tgs.len, primW, mthW, mthTy, isTy, isTys, subW, setW, allOpt, startW]) rfl (rg2a (by omega) (by omega) (by omega) (by omega))
      rw [this]
      rw [show ((m : Int) - ((i : Int) + 1)).toNat = m - (i + 1) by omega]
    have h := for_find (src := .rng ((i : Int) + 1) 1 (m - (i + 1))) (g := asgT (callN prog wf k) (.name 5)) (b := evSs (callN prog wf k) wf clB) (st := st) (fun d => if pt b l m i = pt b l m (i + 1 + d) then some (W.tup [.int i, .int ((i + 1 + d : Nat) : Int)]) else none)
      (fun sl => ∃ y5, sl = [some (.int b), some w, some (.int m), some (.lst ps), some (.int i), y5, x6])
      (fun d sl hd ⟨y5, hs⟩ => by
        subst hs
        have hd : d < m - (i + 1) := hd
        refine ⟨.int ((i : Int) + 1 + (d : Nat) * 1), _, by simp only [Src.at, if_pos hd], rfl, ?_⟩
        have g1 := sub_list (st := st) (get i hi)
        have g2 := sub_list (st := st) (get (i + 1 + d) (by omega))
        have e : (i : Int) + 1 + (d : Nat) * 1 = ((i + 1 + d : Nat) : Int) := by omega
        have ce : evE (callN prog wf k) (.cmp .eq (.sub (.var 3) (.var 4)) (.sub (.var 3) (.var 5))) [some (.int b), some w, some (.int m), some (.lst ps), some (.int i), some (.int ((i + 1 + d : Nat) : Int)), x6] st = .ok (.bl (decide (pt b l m i = pt b l m (i + 1 + d)))) st := by
          generalize ((i + 1 + d : Nat) : Int) = z at g2 ⊢
          simp [ofE, evE, evEs, evSs, evS, evO, evC, M.bind, M.ret, M.opt, M.fail, cmpW, eqW, asInt, asBl, asStr, asTup, asLst, asSeq, thenS, binW, iBin, fin, mkLst, quiet, asgT, asgTs, slotSet, Tgs.len, mthTy, isTys, setW, allOpt, startW, g1, g2]
        rw [e]
        show (match (if pt b l m i = pt b l m (i + 1 + d) then some (W.tup [.int i, .int ((i + 1 + d : Nat) : Int)]) else none) with | some w' => evSs _ wf clB [some (.int b), some w, some (.int m), some (.lst ps), some (.int i), some (.int ((i + 1 + d : Nat) : Int)), x6] st = .ok (.rt w') st | none => ∃ sl2, evSs _ wf clB [some (.int b), some w, some (.int m), some (.lst ps), some (.int i), some (.int ((i + 1 + d : Nat) : Int)), x6] st = .ok (.nx sl2) st ∧ _)
        by_cases hq : pt b l m i = pt b l m (i + 1 + d)
        · rw [if_pos hq]
          rw [decide_eq_true hq] at ce
          simp only
          exact seq_rt ((ife_t ce).trans (seq_rt (ret_ok (by simp [ofE, evE, evEs, evSs, evS, evO, evC, M.bind, M.ret, M.opt, M.fail, cmpW, eqW, asInt, asBl, asStr, asTup, asLst, asSeq, asDct, thenS, binW, iBin, fin, mkLst, quiet, asgT, asgTs, slotSet, Tgs.len, primW, mthW, mthTy, isTy, isTys, subW, setW, allOpt, startW, LIM]))))
        · rw [if_neg hq]
          rw [decide_eq_false hq] at ce
          exact ⟨_, (seq_nx ((ife_f ce).trans seq_nil)).trans seq_nil, _, rfl⟩) rfl (m - (i + 1)) 0 _ (by show 0 + (m - (i + 1)) = m - (i + 1); omega) ⟨x5, rfl⟩
    refine ⟨_, ?_, rfl⟩
    unfold rowC
    cases hr : (List.range' 0 (m - (i + 1))).findSome? (fun d => if pt b l m i = pt b l m (i + 1 + d) then some (W.tup [.int i, .int ((i + 1 + d : Nat) : Int)]) else none) with
    | some v => rw [hr] at h; exact for_rt eit h
    | none =>
      rw [hr] at h
      obtain ⟨sl', h1, y5, rfl⟩ := h
      exact ⟨y5, forS eit h1⟩
  have h := for_find (src := .rng 0 1 m) (g := asgT (callN prog wf k) (.name 4)) (b := evSs (callN prog wf k) wf (.cons (.for (.name 5) (.range (.cons (.bin false .add (.var 4) (.int 1)) (.cons (.var 2) .nil))) clB) .nil)) (st := st) (rowC m (pt b l m))
    (fun sl => ∃ y4 y5 y6, sl = [some (.int b), some w, some (.int m), some (.lst ps), y4, y5, y6])
    (fun i sl hi ⟨y4, y5, y6, hs⟩ => by
      subst hs
      have hi : i < m := hi
      refine ⟨.int (0 + (i : Nat) * 1), _, by simp only [Src.at, if_pos hi], rfl, ?_⟩
      rw [show (0 : Int) + (i : Nat) * 1 = (i : Int) by omega]
      obtain ⟨r, h1, h2⟩ := inner i hi y5 y6
      cases hr : rowC m (pt b l m) i with
      | some v => rw [hr] at h1; simp only at h1 ⊢; subst h1; exact seq_rt h2
      | none =>
        rw [hr] at h1
        obtain ⟨z, h1⟩ := h1
        subst h1
        exact ⟨_, (seq_nx h2).trans seq_nil, _, _, _, rfl⟩) rfl m 0 _ (by show 0 + m = m; omega) ⟨none, none, none, rfl⟩
  have eit : evIt (callN prog wf k) (.range (.cons (.var 2) .nil)) [some (.int b), some w, some (.int m), some (.lst ps), none, none, none] st = .ok (.rng 0 1 m) st := evIt_rng rfl (rg1 (by omega))
  unfold clash
  cases hr : (List.range' 0 m).findSome? (rowC m (pt b l m)) with
  | some v =>
    rw [hr] at h
    have e := for_rt (wf := wf) (t := .name 4) eit h
    exact (congrArg backR (seq_rt e)).trans rfl
  | none =>
    rw [hr] at h
    obtain ⟨sl', h1, _⟩ := h
    have e := forS (wf := wf) (t := .name 4) eit h1
    exact (congrArg backR ((seq_nx e).trans (seq_rt (ret_ok rfl)))).trans rfl
end
end Lk76
namespace Lk76
open PySem MP
section
variable {wf k : Nat} {st : Store}
def lcB : Ss := .cons (.ife (.cmp .eq (.bin false .fdiv (.bin false .mul (.sub (.var 1) (.var 3)) (.var 2)) (.var 0)) (.bin false .fdiv (.bin false .mul (.sub (.var 1) (.var 4)) (.var 2)) (.var 0))) (.cons (.ret (.tup (.cons (.var 3) (.cons (.var 4) .nil)))) .nil) .nil) .nil
theorem lawClash {b : Int} {w : W} {l : List Int} {m : Nat} (hb : 1 ≤ b) (hb2 : b < 2 ^ 41) (hw : asSeq st w = some (l.map .int)) (hm : m ≤ l.length) (hl : l.length ≤ 1000) : callN prog wf (k + 1) 16 [.int b, w, .int m] st = .ok ((clash m (pt b l m)).getD .non) st := by
  have hL : LIM = 1000000 := rfl
  have lg := log_small (c := b) (by omega) hb2
  have hb0 : 0 < b := by omega
  have m1 : ∀ x : Int, mulOk x (m : Int) = true := fun x => small_mul (by omega)
  refine call_ok (d := d__law_clash) rfl rfl ?_
  show backR (evSs _ wf d__law_clash.body [some (.int b), some w, some (.int m), none, none] st) = _
  have get : ∀ i, i < m → subW st w (.int (i : Int)) = some (.int (l.getD i 0)) := fun i hi => by
    have h1 : i < l.length := by omega
    refine sub_seq hw ?_
    rw [List.getElem?_map, List.getElem?_eq_getElem h1]
    simp [h1]
  have inner : ∀ i, i < m → ∀ x4, ∃ r, (match rowC m (pt b l m) i with | some v => r = ResS.ok (.rt v) st | none => ∃ y4, r = .ok (.nx [some (.int b), some w, some (.int m), some (.int i), y4]) st) ∧ evS (callN prog wf k) wf (.for (.name 4) (.range (.cons (.bin false .add (.var 3) (.int 1)) (.cons (.var 2) .nil))) lcB) [some (.int b), some w, some (.int m), some (.int i), x4] st = r := by
    intro i hi x4
    have eit : evIt (callN prog wf k) (.range (.cons (.bin false .add (.var 3) (.int 1)) (.cons (.var 2) .nil))) [some (.int b), some w, some (.int m), some (.int i), x4] st = .ok (.rng ((i : Int) + 1) 1 (m - (i + 1))) st := by
      have := evIt_rng2 (C := callN prog wf k) (e1 := .bin false .add (.var 3) (.int 1)) (e2 := .var 2) (sl := [some (.int b), some w, some (.int m), some (.int i), x4]) (st := st) (st1 := st) (st2 := st) (w1 := .int ((i : Int) + 1)) (w2 := .int m) (by simp [ofE, evE, evEs, evSs, evS, evO, evC, M.bind, M.ret, M.opt, M.fail, cmpW, eqW, asInt, asBl, asStr, asTup, asLst, asSeq, asDct, thenS, binW, iBin, fin, mkLst, quiet, asgT, asgTs, slotSet, Tgs.len, primW, mthW, mthTy, isTy, isTys, subW, setW, allOpt, startW]) rfl (rg2a (by omega) (by omega) (by omega) (by omega))
      rw [this]
      rw [show ((m : Int) - ((i : Int) + 1)).toNat = m - (i + 1) by omega]
    have h := for_find (src := .rng ((i : Int) + 1) 1 (m - (i + 1))) (g := asgT (callN prog wf k) (.name 4)) (b := evSs (callN prog wf k) wf lcB) (st := st) (fun d => if pt b l m i = pt b l m (i + 1 + d) then some (W.tup [.int i, .int ((i + 1 + d : Nat) : Int)]) else none)
      (fun sl => ∃ y4, sl = [some (.int b), some w, some (.int m), some (.int i), y4])
      (fun d sl hd ⟨y4, hs⟩ => by
        subst hs
        have hd : d < m - (i + 1) := hd
        refine ⟨.int ((i : Int) + 1 + (d : Nat) * 1), _, by simp only [Src.at, if_pos hd], rfl, ?_⟩
        have g1 := get i hi
        have g2 := get (i + 1 + d) (by omega)
        have e : (i : Int) + 1 + (d : Nat) * 1 = ((i + 1 + d : Nat) : Int) := by omega
        have ce : evE (callN prog wf k) (.cmp .eq (.bin false .fdiv (.bin false .mul (.sub (.var 1) (.var 3)) (.var 2)) (.var 0)) (.bin false .fdiv (.bin false .mul (.sub (.var 1) (.var 4)) (.var 2)) (.var 0))) [some (.int b), some w, some (.int m), some (.int i), some (.int ((i + 1 + d : Nat) : Int))] st = .ok (.bl (decide (pt b l m i = pt b l m (i + 1 + d)))) st := by
          unfold pt
          generalize ((i + 1 + d : Nat) : Int) = z at g2 ⊢
          generalize l.getD i 0 = u at g1 ⊢
          generalize l.getD (i + 1 + d) 0 = v at g2 ⊢
          simp [ofE, evE, evEs, evSs, evS, evO, evC, M.bind, M.ret, M.opt, M.fail, cmpW, eqW, asInt, asBl, asStr, asTup, asLst, asSeq, thenS, binW, iBin, fin, mkLst, quiet, asgT, asgTs, slotSet, Tgs.len, mthTy, isTys, setW, allOpt, startW, g1, g2, m1, lg, hb0]
        rw [e]
        show (match (if pt b l m i = pt b l m (i + 1 + d) then some (W.tup [.int i, .int ((i + 1 + d : Nat) : Int)]) else none) with | some w' => evSs _ wf lcB [some (.int b), some w, some (.int m), some (.int i), some (.int ((i + 1 + d : Nat) : Int))] st = .ok (.rt w') st | none => ∃ sl2, evSs _ wf lcB [some (.int b), some w, some (.int m), some (.int i), some (.int ((i + 1 + d : Nat) : Int))] st = .ok (.nx sl2) st ∧ _)
        by_cases hq : pt b l m i = pt b l m (i + 1 + d)
        · rw [if_pos hq]
          rw [decide_eq_true hq] at ce
          simp only
          exact seq_rt ((ife_t ce).trans (seq_rt (ret_ok (by simp [ofE, evE, evEs, evSs, evS, evO, evC, M.bind, M.ret, M.opt, M.fail, cmpW, eqW, asInt, asBl, asStr, asTup, asLst, asSeq, asDct, thenS, binW, iBin, fin, mkLst, quiet, asgT, asgTs, slotSet, Tgs.len, primW, mthW, mthTy, isTy, isTys, subW, setW, allOpt, startW, LIM]))))
        · rw [if_neg hq]
          rw [decide_eq_false hq] at ce
          exact ⟨_, (seq_nx ((ife_f ce).trans seq_nil)).trans seq_nil, _, rfl⟩) rfl (m - (i + 1)) 0 _ (by show 0 + (m - (i + 1)) = m - (i + 1); omega) ⟨x4, rfl⟩
    refine ⟨_, ?_, rfl⟩
    unfold rowC
    cases hr : (List.range' 0 (m - (i + 1))).findSome? (fun d => if pt b l m i = pt b l m (i + 1 + d) then some (W.tup [.int i, .int ((i + 1 + d : Nat) : Int)]) else none) with
    | some v => rw [hr] at h; exact for_rt eit h
    | none =>
      rw [hr] at h
      obtain ⟨sl', h1, y4, rfl⟩ := h
      exact ⟨y4, forS eit h1⟩
  have h := for_find (src := .rng 0 1 m) (g := asgT (callN prog wf k) (.name 3)) (b := evSs (callN prog wf k) wf (.cons (.for (.name 4) (.range (.cons (.bin false .add (.var 3) (.int 1)) (.cons (.var 2) .nil))) lcB) .nil)) (st := st) (rowC m (pt b l m))
    (fun sl => ∃ y3 y4, sl = [some (.int b), some w, some (.int m), y3, y4])
    (fun i sl hi ⟨y3, y4, hs⟩ => by
      subst hs
      have hi : i < m := hi
      refine ⟨.int (0 + (i : Nat) * 1), _, by simp only [Src.at, if_pos hi], rfl, ?_⟩
      rw [show (0 : Int) + (i : Nat) * 1 = (i : Int) by omega]
      obtain ⟨r, h1, h2⟩ := inner i hi y4
      cases hr : rowC m (pt b l m) i with
      | some v => rw [hr] at h1; simp only at h1 ⊢; subst h1; exact seq_rt h2
      | none =>
        rw [hr] at h1
        obtain ⟨z, h1⟩ := h1
        subst h1
        exact ⟨_, (seq_nx h2).trans seq_nil, _, _, rfl⟩) rfl m 0 _ (by show 0 + m = m; omega) ⟨none, none, rfl⟩
  have eit : evIt (callN prog wf k) (.range (.cons (.var 2) .nil)) [some (.int b), some w, some (.int m), none, none] st = .ok (.rng 0 1 m) st := evIt_rng rfl (rg1 (by omega))
  unfold clash
  cases hr : (List.range' 0 m).findSome? (rowC m (pt b l m)) with
  | some v =>
    rw [hr] at h
    have e := for_rt (wf := wf) (t := .name 3) eit h
    exact (congrArg backR (seq_rt e)).trans rfl
  | none =>
    rw [hr] at h
    obtain ⟨sl', h1, _⟩ := h
    have e := forS (wf := wf) (t := .name 3) eit h1
    exact (congrArg backR ((seq_nx e).trans (seq_rt (ret_ok rfl)))).trans rfl
theorem clash_form {m : Nat} {p : Nat → Int} {v : W} (h : clash m p = some v) : ∃ a c : Int, v = .tup [.int a, .int c] := by
  unfold clash at h
  obtain ⟨i, _, h⟩ := List.exists_of_findSome?_eq_some h
  unfold rowC at h
  obtain ⟨d, _, h⟩ := List.exists_of_findSome?_eq_some h
  split at h
  · cases h; exact ⟨_, _, rfl⟩
  · cases h
theorem eqW_nn : eqW st (.lst []) (.lst []) = some true := rfl
theorem isListG {w : W} (h : isTys st [.list, .tuple] w = some true) : callN prog wf (k + 1) 0 [w] st = .ok (.bl true) st := call_rt (d := d_is_list) rfl rfl (seq_rt (ret_ok (by
  show M.bind _ _ st = _
  unfold M.bind
  have : evE (callN prog wf k) (.var 0) (startW d_is_list.N.length [w]) st = .ok w st := rfl
  simp only [this]
  unfold M.opt
  simp only [h, Option.map_some])))
theorem lc_none {C : Nat → List W → M W} {c : Bool} {own : List Nat} {t : Tg} {it : It} {cond : Oe} {elt : E} {sl : Slots} {src : Src} (h : evIt C it sl st = .ok src st) (hl : src.len ≤ LIM) (hf : src.fin st = true)
    (hg : ∀ i, i < src.len → ∃ x, src.at st i = some x ∧ stepW (asgT C t x (wipeW sl own)) (evC C cond) (evE C elt) st = .ok none st) : evE C (.lc c own t it cond elt) sl st = mkLst c [] st := by
  obtain ⟨ws, st', e, h1, h2⟩ := lc_inv (src := src) (step := fun x => stepW (asgT C t x (wipeW sl own)) (evC C cond) (evE C elt)) (fun i acc st' => st' = st ∧ acc = [])
    (fun i acc st' hi ⟨h1, h2⟩ => by
      subst h1 h2
      obtain ⟨x, e1, e2⟩ := hg i hi
      exact ⟨x, none, _, e1, e2, rfl, rfl⟩) (fun acc st' ⟨h1, _⟩ => by rw [h1]; exact hf) src.len 0 [] st (by omega) ⟨rfl, rfl⟩
  subst h1 h2
  exact lc_ok h hl e
theorem checkPoints {bt : Int} {w : W} {l : List Int} (hw : asSeq st w = some (l.map .int)) (ht : isTys st [.list, .tuple] w = some true) (hb : 1 ≤ bt) (hl : 1 ≤ l.length) (hl2 : l.length ≤ 1000) (hp : ∀ p ∈ l, 0 ≤ p ∧ p < bt) : callN prog wf (k + 4) 5 [.int bt, w] st = .ok .non st := by
  have hL : LIM = 1000000 := rfl
  have e1 := chkBottom (wf := wf) (k := k + 1) (st := st) hb
  have e2 := isListG (wf := wf) (k := k + 2) ht
  have e3 : primW st .len [w] = some (.int l.length) := by simpa using len_prim hw
  obtain ⟨s, s1, s2, s3⟩ := src1_of hw
  obtain ⟨s4, s5⟩ := s3 st (keepsW.refl st _)
  have eit : evIt (callN prog wf (k + 3)) (.enum (.var 1)) [some (.int bt), some w, none, none, none] st = .ok (.enum s 0) st := by simp [evIt, ofE, evE, evEs, evSs, evS, evO, evC, M.bind, M.ret, M.opt, M.fail, cmpW, eqW, asInt, asBl, asStr, asTup, asLst, asSeq, asDct, thenS, binW, iBin, fin, mkLst, quiet, asgT, asgTs, slotSet, Tgs.len, primW, mthW, mthTy, isTy, isTys, subW, setW, allOpt, startW, s1]
  have hlen : (Src.enum s 0).len = l.length := by simp only [Src.len, s2, List.length_map]
  have e4 : evE (callN prog wf (k + 3)) (.lc false [3, 4] (.tup (.cons (.name 3) (.cons (.name 4) .nil))) (.enum (.var 1)) (.some (.not (.call 3 (.cons (.var 4) (.cons (.var 0) .nil)) []))) (.var 3)) [some (.int bt), some w, none, none, none] st = .ok (.lst []) st := by
    rw [lc_none eit (by rw [hlen]; omega) (by simp only [Src.fin, s5]) (fun i hi => by
      rw [hlen] at hi
      have hq := hp l[i] (List.getElem_mem hi)
      have e := index (wf := wf) (k := k) (st := st) hq.1 hq.2
      refine ⟨.tup [.int (0 + (i : Nat)), .int l[i]], ?_, ?_⟩
      · simp only [Src.at, s4, List.getElem?_map, List.getElem?_eq_getElem hi, Option.map_some]
      · simp [stepW, wipeW, ofE, evE, evEs, evSs, evS, evO, evC, M.bind, M.ret, M.opt, M.fail, cmpW, eqW, asInt, asBl, asStr, asTup, asLst, asSeq, asDct, thenS, binW, iBin, fin, mkLst, quiet, asgT, asgTs, slotSet, Tgs.len, primW, mthW, mthTy, isTy, isTys, subW, setW, allOpt, startW, e])]
    rfl
  refine call_nx (d := d_check_points) (sl := [some (.int bt), some w, some (.lst []), none, none]) rfl rfl ?_
  show evSs _ wf _ [some (.int bt), some w, none, none, none] st = _
  unfold d_check_points
  have hne : l ≠ [] := by intro z; subst z; simp at hl
  refine (seq_nx (expr_ok (w := .non) (st1 := st) ?_)).trans ((seq_nx ((ife_f (st' := st) ?_).trans seq_nil)).trans ((seq_nx (asgN_ok e4)).trans ((seq_nx ((ife_f (st' := st) ?_).trans seq_nil)).trans seq_nil)))
  · simp [ofE, evE, evEs, evSs, evS, evO, evC, M.bind, M.ret, M.opt, M.fail, cmpW, eqW, asInt, asBl, asStr, asTup, asLst, asSeq, thenS, binW, iBin, fin, mkLst, quiet, asgT, asgTs, slotSet, Tgs.len, mthTy, isTys, setW, allOpt, startW, e1]
  · simp [ofE, evE, evEs, evSs, evS, evO, evC, M.bind, M.ret, M.opt, M.fail, cmpW, eqW, asInt, asBl, asStr, asTup, asLst, asSeq, thenS, binW, iBin, fin, mkLst, quiet, asgT, asgTs, slotSet, Tgs.len, mthTy, isTys, setW, allOpt, startW, e2, e3, hne]
  · show M.bind _ _ st = _
    unfold M.bind
    have e6 : evE (callN prog wf (k + 3)) (.var 2) (slotSet [some (.int bt), some w, none, none, none] 2 (.lst [])) st = .ok (.lst []) st := rfl
    simp only [e6]
    rfl
/-- the first fault from the beginning -/
def faultF (b : Int) (l : List Int) (i : Nat) : Option W := match clash (i + 1) (pt b l (i + 1)) with
  | some (.tup [a, c]) => some (.tup [.int (1 + (i : Nat) * 1), a, c])
  | _ => none
def fault (b : Int) (l : List Int) : Option W := (List.range' 0 l.length).findSome? (faultF b l)
def faB (id : Nat) : Ss := .cons (.asg (.name 3) (.call id (.cons (.var 0) (.cons (.var 1) (.cons (.var 2) .nil))) [])) (.cons (.ife (.cmp .notn (.var 3) .non) (.cons (.ret (.tup (.cons (.var 2) (.cons (.sub (.var 3) (.int 0)) (.cons (.sub (.var 3) (.int 1)) .nil))))) .nil) .nil) .nil)
theorem fault_loop {C : Nat → List W → M W} {id : Nat} {b : Int} {w : W} {l : List Int} (hw : asSeq st w = some (l.map .int)) (hl2 : l.length ≤ 1000) (hC : ∀ m, m ≤ l.length → C id [.int b, w, .int m] st = .ok ((clash m (pt b l m)).getD .non) st) :
    backR (evSs C wf (.cons (.for (.name 2) (.range (.cons (.int 1) (.cons (.bin false .add (.bi false .len (.cons (.var 1) .nil)) (.int 1)) .nil))) (faB id)) (.cons (.ret .non) .nil)) [some (.int b), some w, none, none] st) = .ok ((fault b l).getD .non) st := by
  have e3 : primW st .len [w] = some (.int l.length) := by simpa using len_prim hw
  have eit : evIt C (.range (.cons (.int 1) (.cons (.bin false .add (.bi false .len (.cons (.var 1) .nil)) (.int 1)) .nil))) [some (.int b), some w, none, none] st = .ok (.rng 1 1 l.length) st := by
    have := evIt_rng2 (C := C) (e1 := .int 1) (e2 := .bin false .add (.bi false .len (.cons (.var 1) .nil)) (.int 1)) (sl := [some (.int b), some w, none, none]) (st := st) (st1 := st) (st2 := st) (w1 := .int 1) (w2 := .int (l.length + 1)) rfl (by simp [ofE, evE, evEs, evSs, evS, evO, evC, M.bind, M.ret, M.opt, M.fail, cmpW, eqW, asInt, asBl, asStr, asTup, asLst, asSeq, thenS, binW, iBin, fin, mkLst, quiet, asgT, asgTs, slotSet, Tgs.len, mthTy, isTys, setW, allOpt, startW, e3]) (rg2a (by omega) (by omega) (by omega) (by omega))
    rw [this]
    rw [show ((l.length : Int) + 1 - 1).toNat = l.length by omega]
  have h := for_find (src := .rng 1 1 l.length) (g := asgT C (.name 2)) (b := evSs C wf (faB id)) (st := st) (faultF b l) (fun sl => ∃ y2 y3, sl = [some (.int b), some w, y2, y3])
    (fun i sl hi ⟨y2, y3, hs⟩ => by
      subst hs
      have hi : i < l.length := hi
      refine ⟨.int (1 + (i : Nat) * 1), _, by simp only [Src.at, if_pos hi], rfl, ?_⟩
      have hc := hC (i + 1) (by omega)
      have e1 : (1 : Int) + (i : Nat) * 1 = ((i + 1 : Nat) : Int) := by omega
      unfold faultF
      rw [e1]
      have ec : evE C (.call id (.cons (.var 0) (.cons (.var 1) (.cons (.var 2) .nil))) []) [some (.int b), some w, some (.int ((i + 1 : Nat) : Int)), y3] st = .ok ((clash (i + 1) (pt b l (i + 1))).getD .non) st := by
        generalize ((i + 1 : Nat) : Int) = z at hc ⊢
        generalize (clash (i + 1) (pt b l (i + 1))).getD .non = y at hc ⊢
        simp [ofE, evE, evEs, evSs, evS, evO, evC, M.bind, M.ret, M.opt, M.fail, cmpW, eqW, asInt, asBl, asStr, asTup, asLst, asSeq, asDct, thenS, binW, iBin, fin, mkLst, quiet, asgT, asgTs, slotSet, Tgs.len, primW, mthW, mthTy, isTy, isTys, subW, setW, allOpt, startW, hc]
      show (match (match clash (i + 1) (pt b l (i + 1)) with | some (.tup [a, c]) => some (W.tup [.int ((i + 1 : Nat) : Int), a, c]) | _ => none) with | some w' => evSs C wf (faB id) [some (.int b), some w, some (.int ((i + 1 : Nat) : Int)), y3] st = .ok (.rt w') st | none => ∃ sl2, evSs C wf (faB id) [some (.int b), some w, some (.int ((i + 1 : Nat) : Int)), y3] st = .ok (.nx sl2) st ∧ _)
      cases hr : clash (i + 1) (pt b l (i + 1)) with
      | none =>
        rw [hr] at ec
        exact ⟨[some (.int b), some w, some (.int ((i + 1 : Nat) : Int)), some .non], (seq_nx (asgN_ok ec)).trans ((seq_nx ((ife_f (st' := st) (by simp [ofE, evE, evEs, evSs, evS, evO, evC, M.bind, M.ret, M.opt, M.fail, cmpW, eqW, asInt, asBl, asStr, asTup, asLst, asSeq, asDct, thenS, binW, iBin, fin, mkLst, quiet, asgT, asgTs, slotSet, Tgs.len, primW, mthW, mthTy, isTy, isTys, subW, setW, allOpt, startW])).trans seq_nil)).trans seq_nil), _, _, rfl⟩
      | some v =>
        obtain ⟨a, c, rfl⟩ := clash_form hr
        rw [hr] at ec
        exact (seq_nx (asgN_ok ec)).trans (seq_rt ((ife_t (st' := st) (by simp [ofE, evE, evEs, evSs, evS, evO, evC, M.bind, M.ret, M.opt, M.fail, cmpW, eqW, asInt, asBl, asStr, asTup, asLst, asSeq, asDct, thenS, binW, iBin, fin, mkLst, quiet, asgT, asgTs, slotSet, Tgs.len, primW, mthW, mthTy, isTy, isTys, subW, setW, allOpt, startW])).trans (seq_rt (ret_ok (by simp [ofE, evE, evEs, evSs, evS, evO, evC, M.bind, M.ret, M.opt, M.fail, cmpW, eqW, asInt, asBl, asStr, asTup, asLst, asSeq, asDct, thenS, binW, iBin, fin, mkLst, quiet, asgT, asgTs, slotSet, Tgs.len, primW, mthW, mthTy, isTy, isTys, subW, setW, allOpt, startW, LIM, L2.atI, L2.ixN]))))))
    rfl l.length 0 _ (by show 0 + l.length = l.length; omega) ⟨none, none, rfl⟩
  unfold fault
  cases hr : (List.range' 0 l.length).findSome? (faultF b l) with
  | some v =>
    rw [hr] at h
    have e := for_rt (wf := wf) (t := .name 2) eit h
    exact (congrArg backR (seq_rt e)).trans rfl
  | none =>
    rw [hr] at h
    obtain ⟨sl', h1, _⟩ := h
    have e := forS (wf := wf) (t := .name 2) eit h1
    exact (congrArg backR ((seq_nx e).trans (seq_rt (ret_ok rfl)))).trans rfl
theorem beginningFault {b : Int} {w : W} {l : List Int} (hb : 1 ≤ b) (hb2 : b < 2 ^ 41) (hw : asSeq st w = some (l.map .int)) (ht : isTys st [.list, .tuple] w = some true) (hl : 1 ≤ l.length) (hl2 : l.length ≤ 1000) (hp : ∀ p ∈ l, 0 ≤ p ∧ p < b) (hns : ∀ ns, w ≠ .scr ns) : callN prog wf (k + 5) 8 [.int b, w] st = .ok ((fault b l).getD .non) st := by
  have e1 := checkPoints (wf := wf) (k := k) hw ht hb hl hl2 hp
  refine call_ok (d := d_beginning_fault) rfl rfl ?_
  show backR (evSs _ wf d_beginning_fault.body [some (.int b), some w, none, none] st) = _
  have := fault_loop (wf := wf) (C := callN prog wf (k + 4)) (id := 7) hw hl2 (fun m hm => firstClash (k := k + 3) hb hb2 hw hm hl2 hns)
  refine (congrArg backR (seq_nx (expr_ok (w := .non) (st1 := st) ?_))).trans this
  simp [ofE, evE, evEs, evSs, evS, evO, evC, M.bind, M.ret, M.opt, M.fail, cmpW, eqW, asInt, asBl, asStr, asTup, asLst, asSeq, thenS, binW, iBin, fin, mkLst, quiet, asgT, asgTs, slotSet, Tgs.len, mthTy, isTys, setW, allOpt, startW, e1]
theorem lawFault {b : Int} {w : W} {l : List Int} (hb : 1 ≤ b) (hb2 : b < 2 ^ 41) (hw : asSeq st w = some (l.map .int)) (hl2 : l.length ≤ 1000) : callN prog wf (k + 2) 17 [.int b, w] st = .ok ((fault b l).getD .non) st := by
  refine call_ok (d := d__law_beginning_fault) rfl rfl ?_
  exact fault_loop (wf := wf) (C := callN prog wf (k + 1)) (id := 16) hw hl2 (fun m hm => lawClash (k := k) hb hb2 hw hm hl2)
end
end Lk76
namespace Lk76
open PySem MP
/-- no two alike -/
def dist : List Nat → Bool
  | [] => true
  | x :: xs => xs.all (fun y => !(Nat.beq x y)) && dist xs
def okW (b : Nat) (rw : List Nat) : Bool := let m := rw.length; dist (rw.map fun p => p * m / b)
/-- the search by the program: the way turned about -/
def simF (b m : Nat) : Nat → List Nat → Nat → Nat → Option (Option (List Nat))
  | 0, _, _, _ => none
  | f + 1, rw, len, here =>
    if Nat.ble m len then some (some rw) else
    if Nat.beq here b then (match rw with
      | [] => some none
      | p :: r => simF b m f r (len - 1) (p + 1)) else
    if okW b (here :: rw) then simF b m f (here :: rw) (len + 1) 0 else simF b m f rw len (here + 1)
def iv (rw : List Nat) : List Int := rw.reverse.map (fun n => ((n : Nat) : Int))
theorem iv_cons (p : Nat) (rw : List Nat) : iv (p :: rw) = iv rw ++ [((p : Nat) : Int)] := by simp [iv]
theorem iv_len (rw : List Nat) : (iv rw).length = rw.length := by simp [iv]
theorem dist_iff : ∀ l : List Nat, dist l = true ↔ l.Nodup
  | [] => by simp [dist]
  | x :: xs => by
    have ih := dist_iff xs
    simp only [dist, Bool.and_eq_true, List.all_eq_true, List.nodup_cons, ih]
    refine and_congr_left fun _ => ⟨fun h hx => ?_, fun h y hy => ?_⟩
    · have := h x hx
      simp at this
    · cases e : Nat.beq x y with
      | false => rfl
      | true => exact absurd (Nat.eq_of_beq_eq_true e ▸ hy) h
theorem clash_none {m : Nat} {p : Nat → Int} : clash m p = none ↔ ∀ i j, i < j → j < m → p i ≠ p j := by
  unfold clash rowC
  simp only [List.findSome?_eq_none_iff, List.mem_range'_1, Nat.zero_add, Nat.zero_le, true_and]
  constructor
  · intro h i j h1 h2 e
    have := h i (by omega) (j - (i + 1)) (by omega)
    rw [show i + 1 + (j - (i + 1)) = j by omega, if_pos e] at this
    cases this
  · intro h i hi d hd
    rw [if_neg (h i (i + 1 + d) (by omega) (by omega))]
theorem pt_iv {b m i : Nat} {rw : List Nat} (hi : i < rw.length) : pt (b : Nat) (iv rw) m i = (((rw.reverse[i]'(by simpa using hi)) * m / b : Nat) : Int) := by
  unfold pt iv
  have h1 : i < (rw.reverse.map (fun n => ((n : Nat) : Int))).length := by simpa using hi
  rw [List.getD_eq_getElem?_getD, List.getElem?_eq_getElem h1]
  simp
theorem okW_iff {b : Nat} {rw : List Nat} : okW b rw = true ↔ clash rw.length (pt (b : Nat) (iv rw) rw.length) = none := by
  unfold okW
  simp only []
  rw [dist_iff, ← (List.reverse_perm _).nodup_iff, ← List.map_reverse, clash_none]
  rw [List.nodup_iff_pairwise_ne, List.pairwise_iff_getElem]
  simp only [List.getElem_map, List.length_map, List.length_reverse]
  constructor
  · intro h i j h1 h2 e
    rw [pt_iv (by omega), pt_iv (by omega)] at e
    exact h i j (by omega) (by omega) h1 (by exact_mod_cast e)
  · intro h i j h1 h2 h3 e
    refine h i j h3 h2 ?_
    rw [pt_iv (by omega), pt_iv (by omega)]
    exact_mod_cast e
section
variable {wf k : Nat} {st : Store}
def fwC : E := .cmp .lt (.bi false .len (.cons (.var 2) .nil)) (.var 1)
def fwX : S := .ife (.cmp .eq (.var 2) (.lst false .nil)) (.cons (.ret .non) .nil) .nil
def fwY : S := .asg (.name 3) (.bin true .add (.mt .pop (.var 2) .nil) (.int 1))
def fwT : E := .cmp .isn (.call 7 (.cons (.var 0) (.cons (.lst false (.star (.var 2) (.cons (.var 3) .nil))) (.cons (.bin false .add (.bi false .len (.cons (.var 2) .nil)) (.int 1)) .nil))) []) .non
def fwB : Ss := .cons (.ife (.cmp .eq (.var 3) (.var 0)) (.cons fwX (.cons fwY .nil)) (.cons (.ife fwT (.cons (.expr (.mt .append (.var 2) (.cons (.var 3) .nil))) (.cons (.asg (.name 3) (.int 0)) .nil)) (.cons (.asg (.name 3) (.bin true .add (.var 3) (.int 1))) .nil)) .nil)) .nil
theorem fair_body : d_fair_line.body = .cons (.expr (.call 4 (.cons (.var 0) .nil) [])) (.cons (.expr (.call 6 (.cons (.var 1) .nil) [])) (.cons (.asg (.tup (.cons (.name 2) (.cons (.name 3) .nil))) (.tup (.cons (.lst true .nil) (.cons (.int 0) .nil)))) (.cons (.while fwC fwB) (.cons (.ret (.var 2)) .nil)))) := rfl
abbrev fs (b m c here : Nat) : Slots := [some (.int b), some (.int m), some (.cell c), some (.int here)]
abbrev fst' (st : Store) (rw : List Nat) : Store := st ++ [.lst ((iv rw).map .int)]
theorem fair_loop {b m : Nat} (hb : 1 ≤ b) (hb2 : b ≤ 1000) (hm : m ≤ 900) : ∀ (f : Nat) (rw : List Nat) (here n : Nat) (r : Option (List Nat)), simF b m f rw rw.length here = some r → f ≤ n → here ≤ b → (∀ p ∈ rw, p < b) → rw.length ≤ 900 →
    match r with
    | none => whileL (evE (callN prog wf (k + 1)) fwC) (evSs (callN prog wf (k + 1)) wf fwB) n (fs b m st.length here) (fst' st rw) = .ok (.rt .non) (fst' st [])
    | some rw' => ∃ h', whileL (evE (callN prog wf (k + 1)) fwC) (evSs (callN prog wf (k + 1)) wf fwB) n (fs b m st.length here) (fst' st rw) = .ok (.nx (fs b m st.length h')) (fst' st rw') := by
  intro f
  induction f with
  | zero => intro rw here n r h; cases h
  | succ f ih =>
    intro rw here n r h hn hh hp hlen
    obtain ⟨n, rfl⟩ : ∃ j, n = j + 1 := ⟨n - 1, by omega⟩
    have hget : (fst' st rw)[st.length]? = some (.lst ((iv rw).map .int)) := get_last
    have hlen' : primW (fst' st rw) .len [.cell st.length] = some (.int (rw.length : Nat)) := by
      have := len_prim (st := fst' st rw) (w := .cell st.length) (ws := (iv rw).map .int) (by simp only [asSeq, asLst, hget])
      rw [this]; simp [iv_len]
    have hc : evE (callN prog wf (k + 1)) fwC (fs b m st.length here) (fst' st rw) = .ok (.bl (decide ((rw.length : Int) < (m : Int)))) (fst' st rw) := by
      unfold fwC
      simp [ofE, evE, evEs, evSs, evS, evO, evC, M.bind, M.ret, M.opt, M.fail, cmpW, eqW, asInt, asBl, asStr, asTup, asLst, asSeq, thenS, binW, iBin, fin, mkLst, quiet, asgT, asgTs, slotSet, Tgs.len, mthTy, isTys, setW, allOpt, startW, hlen']
    unfold simF at h
    cases e1 : Nat.ble m rw.length with
    | true =>
      rw [e1] at h
      simp only [if_true] at h
      cases h
      have := Nat.le_of_ble_eq_true e1
      rw [decide_eq_false (by omega)] at hc
      exact ⟨here, while_end hc⟩
    | false =>
      rw [e1] at h
      simp only [Bool.false_eq_true, if_false] at h
      have hlt : rw.length < m := by
        rcases Nat.lt_or_ge rw.length m with z | z
        · exact z
        · rw [Nat.ble_eq_true_of_le z] at e1; cases e1
      rw [decide_eq_true (by omega)] at hc
      cases e2 : Nat.beq here b with
      | true =>
        rw [e2] at h
        simp only [if_true] at h
        have hhb := Nat.eq_of_beq_eq_true e2
        subst hhb
        have ce : evE (callN prog wf (k + 1)) (.cmp .eq (.var 3) (.var 0)) (fs here m st.length here) (fst' st rw) = .ok (.bl true) (fst' st rw) := by simp [ofE, evE, evEs, evSs, evS, evO, evC, M.bind, M.ret, M.opt, M.fail, cmpW, eqW, asInt, asBl, asStr, asTup, asLst, asSeq, asDct, thenS, binW, iBin, fin, mkLst, quiet, asgT, asgTs, slotSet, Tgs.len, primW, mthW, mthTy, isTy, isTys, subW, setW, allOpt, startW]
        have eq0 := eqW_nil (st := fst' st rw) (q := st.length) (is := iv rw) hget
        have cx : evE (callN prog wf (k + 1)) (.cmp .eq (.var 2) (.lst false .nil)) (fs here m st.length here) (fst' st rw) = .ok (.bl (iv rw).isEmpty) (fst' st rw) := by
          show M.bind _ _ _ = _
          unfold M.bind
          have : evE (callN prog wf (k + 1)) (.var 2) (fs here m st.length here) (fst' st rw) = .ok (.cell st.length) (fst' st rw) := rfl
          simp only [this]
          show M.opt ((cmpW (fst' st rw) .eq (.cell st.length) (.lst [])).map W.bl) (fst' st rw) = _
          unfold cmpW
          rw [eq0]
          rfl
        cases rw with
        | nil =>
          cases h
          exact while_ret hc (seq_rt ((ife_t ce).trans (seq_rt ((ife_t cx).trans (seq_rt (ret_ok rfl))))))
        | cons p rr =>
          simp only [List.length_cons, Nat.add_sub_cancel] at h
          have cx' : (iv (p :: rr)).isEmpty = false := by rw [iv_cons]; simp
          rw [cx'] at cx
          have hp0 := hp p (by simp)
          have cy : evE (callN prog wf (k + 1)) (.bin true .add (.mt .pop (.var 2) .nil) (.int 1)) (fs here m st.length here) (fst' st (p :: rr)) = .ok (.int ((p + 1 : Nat) : Int)) (fst' st rr) := by
            have g2 : (fst' st (p :: rr))[st.length]? = some (.lst ((iv rr).map .int ++ [.int (p : Nat)])) := by rw [hget, iv_cons]; simp
            have g3 : (fst' st (p :: rr)).set st.length (.lst ((iv rr).map .int)) = fst' st rr := set_last
            generalize fst' st (p :: rr) = s1 at g2 g3 ⊢
            simp [ofE, evE, evEs, evSs, evS, evO, evC, M.bind, M.ret, M.opt, M.fail, cmpW, eqW, asInt, asBl, asStr, asTup, asLst, asSeq, asDct, thenS, binW, iBin, fin, mkLst, quiet, asgT, asgTs, slotSet, Tgs.len, primW, mthW, mthTy, isTy, isTys, subW, setW, allOpt, startW, g2, g3]
          have := ih rr (p + 1) n r h (by omega) (by omega) (fun q hq => hp q (by simp [hq])) (by simp at hlen; omega)
          have step : evSs (callN prog wf (k + 1)) wf fwB (fs here m st.length here) (fst' st (p :: rr)) = .ok (.nx (fs here m st.length (p + 1))) (fst' st rr) := (seq_nx ((ife_t ce).trans ((seq_nx ((ife_f cx).trans seq_nil)).trans ((seq_nx (asgN_ok cy)).trans seq_nil)))).trans seq_nil
          rw [while_step hc step]
          exact this
      | false =>
        rw [e2] at h
        simp only [Bool.false_eq_true, if_false] at h
        have hne : here ≠ b := fun z => by subst z; simp at e2
        have ce : evE (callN prog wf (k + 1)) (.cmp .eq (.var 3) (.var 0)) (fs b m st.length here) (fst' st rw) = .ok (.bl false) (fst' st rw) := by
          have : ¬ ((here : Int) = (b : Int)) := by omega
          simp [ofE, evE, evEs, evSs, evS, evO, evC, M.bind, M.ret, M.opt, M.fail, cmpW, eqW, asInt, asBl, asStr, asTup, asLst, asSeq, asDct, thenS, binW, iBin, fin, mkLst, quiet, asgT, asgTs, slotSet, Tgs.len, primW, mthW, mthTy, isTy, isTys, subW, setW, allOpt, startW, this]
        have fc := firstClash (wf := wf) (k := k) (st := fst' st rw) (b := (b : Nat)) (w := .lst ((iv (here :: rw)).map .int)) (l := iv (here :: rw)) (m := (here :: rw).length) (by omega) (by omega) rfl (by rw [iv_len]; exact Nat.le_refl _) (by rw [iv_len]; simp; omega) (fun ns z => by cases z)
        have ct : evE (callN prog wf (k + 1)) fwT (fs b m st.length here) (fst' st rw) = .ok (.bl (okW b (here :: rw))) (fst' st rw) := by
          have hit : evE (callN prog wf (k + 1)) (.call 7 (.cons (.var 0) (.cons (.lst false (.star (.var 2) (.cons (.var 3) .nil))) (.cons (.bin false .add (.bi false .len (.cons (.var 2) .nil)) (.int 1)) .nil))) []) (fs b m st.length here) (fst' st rw) = .ok ((clash (here :: rw).length (pt (b : Nat) (iv (here :: rw)) (here :: rw).length)).getD .non) (fst' st rw) := by
            rw [iv_cons] at fc ⊢
            have hl1 : ((iv rw).map W.int ++ [W.int here]).length ≤ LIM := by simp [iv_len, LIM]; omega
            have e7 : evE (callN prog wf (k + 1)) (.lst false (.star (.var 2) (.cons (.var 3) .nil))) (fs b m st.length here) (fst' st rw) = .ok (.lst ((iv rw).map .int ++ [.int here])) (fst' st rw) := by
              show M.bind _ _ _ = _
              unfold M.bind
              have : evEs (callN prog wf (k + 1)) (.star (.var 2) (.cons (.var 3) .nil)) (fs b m st.length here) (fst' st rw) = .ok ((iv rw).map .int ++ [.int here]) (fst' st rw) := by simp [ofE, evE, evEs, evSs, evS, evO, evC, M.bind, M.ret, M.opt, M.fail, cmpW, eqW, asInt, asBl, asStr, asTup, asLst, asSeq, asDct, thenS, binW, iBin, fin, mkLst, quiet, asgT, asgTs, slotSet, Tgs.len, primW, mthW, mthTy, isTy, isTys, subW, setW, allOpt, startW, hget]
              simp only [this]
              rw [if_pos hl1]
              rfl
            simp only [List.map_append, List.map_cons, List.map_nil, List.length_cons] at fc ⊢
            generalize E.lst false (.star (.var 2) (.cons (.var 3) .nil)) = x at e7 ⊢
            generalize (clash (rw.length + 1) (pt (b : Nat) (iv rw ++ [((here : Nat) : Int)]) (rw.length + 1))).getD W.non = y at fc ⊢
            generalize List.map W.int (iv rw) ++ [W.int here] = z at *
            have fc' : callN prog wf (k + 1) 7 [.int b, .lst z, .int ((rw.length : Int) + 1)] (fst' st rw) = .ok y (fst' st rw) := by simpa using fc
            simp [ofE, evE, evEs, evSs, evS, evO, evC, M.bind, M.ret, M.opt, M.fail, cmpW, eqW, asInt, asBl, asStr, asTup, asLst, asSeq, thenS, binW, iBin, fin, mkLst, quiet, asgT, asgTs, slotSet, Tgs.len, mthTy, isTys, setW, allOpt, startW, e7, hlen', fc']
          unfold fwT
          show M.bind _ _ _ = _
          unfold M.bind
          simp only [hit]
          cases hk : clash (here :: rw).length (pt (b : Nat) (iv (here :: rw)) (here :: rw).length) with
          | none =>
            rw [okW_iff.mpr hk]
            rfl
          | some v =>
            obtain ⟨a, c, rfl⟩ := clash_form hk
            have : okW b (here :: rw) = false := by
              cases hq : okW b (here :: rw) with
              | false => rfl
              | true => rw [okW_iff.mp hq] at hk; cases hk
            rw [this]
            rfl
        cases e3 : okW b (here :: rw) with
        | true =>
          rw [e3] at h ct
          simp only [if_true] at h
          have ca : evE (callN prog wf (k + 1)) (.mt .append (.var 2) (.cons (.var 3) .nil)) (fs b m st.length here) (fst' st rw) = .ok .non (fst' st (here :: rw)) := by
            have g3 : (fst' st rw).set st.length (.lst ((iv rw).map .int ++ [.int here])) = fst' st (here :: rw) := by unfold fst'; rw [set_last, iv_cons]; simp
            have hl2 : ((iv rw).map W.int).length < LIM := by simp [iv_len, LIM]; omega
            generalize (iv rw).map W.int = z at *
            generalize fst' st rw = s1 at *
            simp [ofE, evE, evEs, evSs, evS, evO, evC, M.bind, M.ret, M.opt, M.fail, cmpW, eqW, asInt, asBl, asStr, asTup, asLst, asSeq, asDct, thenS, binW, iBin, fin, mkLst, quiet, asgT, asgTs, slotSet, Tgs.len, primW, mthW, mthTy, isTy, isTys, subW, setW, allOpt, startW, hget, g3]
            simpa [LIM] using hl2
          have := ih (here :: rw) 0 n r (by simpa using h) (by omega) (by omega) (fun q hq => by
            rcases List.mem_cons.mp hq with z | z
            · subst z; omega
            · exact hp q z) (by simp; omega)
          have step : evSs (callN prog wf (k + 1)) wf fwB (fs b m st.length here) (fst' st rw) = .ok (.nx (fs b m st.length 0)) (fst' st (here :: rw)) := (seq_nx ((ife_f ce).trans ((seq_nx ((ife_t ct).trans ((seq_nx (expr_ok ca)).trans ((seq_nx (asgN_ok (w := .int 0) rfl)).trans seq_nil)))).trans seq_nil))).trans seq_nil
          rw [while_step hc step]
          exact this
        | false =>
          rw [e3] at h ct
          simp only [Bool.false_eq_true, if_false] at h
          have := ih rw (here + 1) n r h (by omega) (by omega) hp hlen
          have step : evSs (callN prog wf (k + 1)) wf fwB (fs b m st.length here) (fst' st rw) = .ok (.nx (fs b m st.length (here + 1))) (fst' st rw) := (seq_nx ((ife_f ce).trans ((seq_nx ((ife_f ct).trans ((seq_nx (asgN_ok (w := .int ((here + 1 : Nat) : Int)) (st1 := fst' st rw) (by simp [ofE, evE, evEs, evSs, evS, evO, evC, M.bind, M.ret, M.opt, M.fail, cmpW, eqW, asInt, asBl, asStr, asTup, asLst, asSeq, asDct, thenS, binW, iBin, fin, mkLst, quiet, asgT, asgTs, slotSet, Tgs.len, primW, mthW, mthTy, isTy, isTys, subW, setW, allOpt, startW]))).trans seq_nil))).trans seq_nil))).trans seq_nil
          rw [while_step hc step]
          exact this
end
end Lk76
namespace Lk76
open PySem MP
/-- the law's search: the ways, the last one first -/
def simL (b m : Nat) : Nat → List (List Nat) → Option (Option (List Nat))
  | 0, _ => none
  | f + 1, s => match s with
    | [] => some none
    | rw :: rest => if Nat.beq rw.length m then some (some rw) else simL b m f (((List.range b).filter fun p => okW b (p :: rw)).map (· :: rw) ++ rest)
def wy (rw : List Nat) : W := .lst ((iv rw).map .int)
def ls (st : Store) (s : List (List Nat)) : Store := st ++ [.lst (s.reverse.map wy)]
section
variable {wf k : Nat} {st : Store}
theorem fairLine {b m F : Nat} {r : Option (List Nat)} (hb : 1 ≤ b) (hb2 : b ≤ 1000) (hm1 : 1 ≤ m) (hm : m ≤ 900) (h : simF b m F [] 0 0 = some r) (hF : F ≤ wf) :
    callN prog wf (k + 3) 9 [.int b, .int m] st = (match r with | none => .ok .non (st ++ [.lst []]) | some rw => .ok (.cell st.length) (st ++ [.lst ((iv rw).map .int)])) := by
  have e1 := chkBottom (wf := wf) (k := k) (st := st) (b := (b : Nat)) (by omega)
  have e2 := chkMany (wf := wf) (k := k) (st := st) (b := (m : Nat)) (by omega)
  have e3 : evS (callN prog wf (k + 2)) wf (.asg (.tup (.cons (.name 2) (.cons (.name 3) .nil))) (.tup (.cons (.lst true .nil) (.cons (.int 0) .nil)))) [some (.int b), some (.int m), none, none] st = .ok (.nx (fs b m st.length 0)) (fst' st []) := by
    refine asg_ok (w := .tup [.cell st.length, .int 0]) (st1 := fst' st []) (st' := fst' st []) ?_ ?_
    · simp [ofE, evE, evEs, evSs, evS, evO, evC, M.bind, M.ret, M.opt, M.fail, cmpW, eqW, asInt, asBl, asStr, asTup, asLst, asSeq, asDct, thenS, binW, iBin, fin, mkLst, quiet, asgT, asgTs, slotSet, Tgs.len, primW, mthW, mthTy, isTy, isTys, subW, setW, allOpt, startW, LIM, fst', iv]
    · simp [ofE, evE, evEs, evSs, evS, evO, evC, M.bind, M.ret, M.opt, M.fail, cmpW, eqW, asInt, asBl, asStr, asTup, asLst, asSeq, asDct, thenS, binW, iBin, fin, mkLst, quiet, asgT, asgTs, slotSet, Tgs.len, primW, mthW, mthTy, isTy, isTys, subW, setW, allOpt, startW]
  have lp := fair_loop (wf := wf) (k := k + 1) (st := st) hb hb2 hm F [] 0 wf r h hF (by omega) (fun p hp => by cases hp) (by simp)
  have c1 : evS (callN prog wf (k + 2)) wf (.expr (.call 4 (.cons (.var 0) .nil) [])) [some (.int b), some (.int m), none, none] st = .ok (.nx [some (.int b), some (.int m), none, none]) st := expr_ok (w := .non) (by simp [ofE, evE, evEs, evSs, evS, evO, evC, M.bind, M.ret, M.opt, M.fail, cmpW, eqW, asInt, asBl, asStr, asTup, asLst, asSeq, asDct, thenS, binW, iBin, fin, mkLst, quiet, asgT, asgTs, slotSet, Tgs.len, primW, mthW, mthTy, isTy, isTys, subW, setW, allOpt, startW, e1])
  have c2 : evS (callN prog wf (k + 2)) wf (.expr (.call 6 (.cons (.var 1) .nil) [])) [some (.int b), some (.int m), none, none] st = .ok (.nx [some (.int b), some (.int m), none, none]) st := expr_ok (w := .non) (by simp [ofE, evE, evEs, evSs, evS, evO, evC, M.bind, M.ret, M.opt, M.fail, cmpW, eqW, asInt, asBl, asStr, asTup, asLst, asSeq, asDct, thenS, binW, iBin, fin, mkLst, quiet, asgT, asgTs, slotSet, Tgs.len, primW, mthW, mthTy, isTy, isTys, subW, setW, allOpt, startW, e2])
  cases r with
  | none =>
    refine call_rt (d := d_fair_line) rfl rfl ?_
    rw [fair_body]
    exact (seq_nx c1).trans ((seq_nx c2).trans ((seq_nx e3).trans (seq_rt (while_rt lp))))
  | some rw' =>
    obtain ⟨h', lp⟩ := lp
    refine call_rt (d := d_fair_line) rfl rfl ?_
    rw [fair_body]
    exact (seq_nx c1).trans ((seq_nx c2).trans ((seq_nx e3).trans ((seq_nx (whileS lp)).trans (seq_rt (ret_ok rfl)))))
/-! ### the law's -/
theorem lays (s : List (List Nat)) : PyData.canLayAll0 (s.map fun rw => PyData.list ((iv rw).map .int)) = true := by
  induction s with
  | nil => rfl
  | cons r s ih => simp only [List.map_cons, PyData.canLayAll0, PyData.canLay0, lay_ints, ih]; rfl
theorem depths (s : List (List Nat)) : PyData.depthAll (s.map fun rw => PyData.list ((iv rw).map .int)) ≤ 1 := by
  induction s with
  | nil => simp [PyData.depthAll]
  | cons r s ih => simp only [List.map_cons, PyData.depthAll, PyData.depth, depth_ints]; omega
theorem data_ways (n : Nat) (s : List (List Nat)) : allOpt (data st (n + 1)) (s.map wy) = some (s.map fun rw => PyData.list ((iv rw).map .int)) := by
  induction s with
  | nil => rfl
  | cons r s ih =>
    have : data st (n + 1) (wy r) = some (.list ((iv r).map .int)) := by
      show (allOpt (data st n) ((iv r).map .int)).map PyData.list = _
      rw [allOpt_ints]; rfl
    simp only [List.map_cons, allOpt, this, ih]
theorem ways_nil {c : Nat} {s : List (List Nat)} (h : st[c]? = some (.lst (s.map wy))) : eqW st (.cell c) (.lst []) = some s.isEmpty := by
  have e : data st DEPTH (.cell c) = some (.list (s.map fun rw => PyData.list ((iv rw).map .int))) := by
    show (match st[c]? with | some (.lst ws) => (allOpt (data st 39) ws).map PyData.list | some (.dead (.lst ws)) => (allOpt (data st 39) ws).map PyData.list | _ => none) = _
    rw [h]
    simp only [data_ways, Option.map_some]
  have e2 : data st DEPTH (.lst []) = some (.list []) := rfl
  have sh : PySem.SeqAt.shaped (.list (s.map fun rw => PyData.list ((iv rw).map .int))) = true := by
    unfold PySem.SeqAt.shaped
    have := depths s
    rw [show PyData.canLay0 (.list (s.map fun rw => PyData.list ((iv rw).map .int))) = true from lays s, Bool.true_and]
    refine decide_eq_true ?_
    show PyData.depthAll (s.map fun rw => PyData.list ((iv rw).map .int)) + 1 ≤ 64
    omega
  show ((data st DEPTH (.cell c)).bind fun d => (data st DEPTH (.lst [])).bind fun e => if PySem.SeqAt.shaped d && PySem.SeqAt.shaped e then some (PyData.eqv d e) else none) = _
  rw [e, e2]
  simp only [Option.bind_some, sh, show PySem.SeqAt.shaped (.list []) = true from shaped_ints []]
  cases s <;> rfl
def lnC : E := .cmp .ne (.var 2) (.lst false .nil)
def lnP : E := .bin false .add (.var 3) (.lst false (.cons (.var 4) .nil))
def lnT : E := .cmp .isn (.call 16 (.cons (.var 0) (.cons lnP (.cons (.bin false .add (.bi false .len (.cons (.var 3) .nil)) (.int 1)) .nil))) []) .non
def lnI : Ss := .cons (.ife lnT (.cons (.expr (.mt .append (.var 2) (.cons lnP .nil))) .nil) .nil) .nil
def lnR : MP.It := .range (.cons (.bin false .sub (.var 0) (.int 1)) (.cons (.neg (.int 1)) (.cons (.neg (.int 1)) .nil)))
def lnB : Ss := .cons (.asg (.name 3) (.mt .pop (.var 2) .nil)) (.cons (.ife (.cmp .eq (.bi false .len (.cons (.var 3) .nil)) (.var 1)) (.cons (.ret (.var 3)) .nil) .nil) (.cons (.for (.name 4) lnR lnI) .nil))
theorem line_body : d__law_line.body = .cons (.asg (.name 2) (.lst true (.cons (.lst false .nil) .nil))) (.cons (.while lnC lnB) (.cons (.ret .non) .nil)) := rfl
theorem ls_get {s : List (List Nat)} : (ls st s)[st.length]? = some (.lst (s.reverse.map wy)) := get_last
/-- the points of a way, one by one from above -/
theorem line_for {b m : Nat} {rw : List Nat} {rest : List (List Nat)} {x4 : Option W} (hb : 1 ≤ b) (hb2 : b ≤ 1000) (hr : rw.length ≤ 900) (hs : rest.length + b < LIM) :
    ∃ y4, evS (callN prog wf (k + 1)) wf (.for (.name 4) lnR lnI) [some (.int b), some (.int m), some (.cell st.length), some (wy rw), x4] (ls st rest) = .ok (.nx [some (.int b), some (.int m), some (.cell st.length), some (wy rw), y4]) (ls st (((List.range b).filter fun p => okW b (p :: rw)).map (· :: rw) ++ rest)) := by
  have hL : LIM = 1000000 := rfl
  have eit : evIt (callN prog wf (k + 1)) lnR [some (.int b), some (.int m), some (.cell st.length), some (wy rw), x4] (ls st rest) = .ok (.rng ((b : Int) - 1) (-1) b) (ls st rest) := by
    have := evIt_rng3 (C := callN prog wf (k + 1)) (e1 := .bin false .sub (.var 0) (.int 1)) (e2 := .neg (.int 1)) (e3 := .neg (.int 1)) (sl := [some (.int b), some (.int m), some (.cell st.length), some (wy rw), x4]) (st := ls st rest) (st1 := ls st rest) (st2 := ls st rest) (st3 := ls st rest) (w1 := .int ((b : Int) - 1)) (w2 := .int (-1)) (w3 := .int (-1)) (by simp [ofE, evE, evEs, evSs, evS, evO, evC, M.bind, M.ret, M.opt, M.fail, cmpW, eqW, asInt, asBl, asStr, asTup, asLst, asSeq, asDct, thenS, binW, iBin, fin, mkLst, quiet, asgT, asgTs, slotSet, Tgs.len, primW, mthW, mthTy, isTy, isTys, subW, setW, allOpt, startW]) rfl rfl (rg3a (by omega) (by omega) (by omega) (by omega))
    unfold lnR
    rw [this]
    rw [show ((b : Int) - 1 - -1).toNat = b by omega]
  obtain ⟨sl', st', e, h1, y4, h2⟩ := for_inv (src := .rng ((b : Int) - 1) (-1) b) (g := asgT (callN prog wf (k + 1)) (.name 4)) (b := evSs (callN prog wf (k + 1)) wf lnI)
    (fun i sl st' => st' = ls st (((List.range' (b - i) i).filter fun p => okW b (p :: rw)).map (· :: rw) ++ rest) ∧ ∃ y4 : Option W, sl = [some (.int b), some (.int m), some (.cell st.length), some (wy rw), y4])
    (fun i sl st' hi ⟨h1, y4, h2⟩ => by
      subst h1 h2
      have hi : i < b := hi
      obtain ⟨p, hp⟩ : ∃ p, b - (i + 1) = p := ⟨_, rfl⟩
      have ep : (b : Int) - 1 + (i : Nat) * -1 = ((p : Nat) : Int) := by omega
      have er : List.range' (b - (i + 1)) (i + 1) = p :: List.range' (b - i) i := by rw [hp, List.range'_succ, show p + 1 = b - i by omega]
      rw [er]
      have lenS : (((List.range' (b - i) i).filter fun p => okW b (p :: rw)).map (· :: rw) ++ rest).length < LIM := by
        have := List.length_filter_le (fun p => okW b (p :: rw)) (List.range' (b - i) i)
        simp at this ⊢
        omega
      generalize hS : ((List.range' (b - i) i).filter fun p => okW b (p :: rw)).map (· :: rw) ++ rest = S at lenS ⊢
      have fc := lawClash (wf := wf) (k := k) (st := ls st S) (b := (b : Nat)) (w := wy (p :: rw)) (l := iv (p :: rw)) (m := (p :: rw).length) (by omega) (by omega) rfl (by rw [iv_len]; exact Nat.le_refl _) (by rw [iv_len]; simp; omega)
      have c1 : evE (callN prog wf (k + 1)) lnP [some (.int b), some (.int m), some (.cell st.length), some (wy rw), some (.int p)] (ls st S) = .ok (wy (p :: rw)) (ls st S) := by
        have h1 : wy (p :: rw) = .lst ((iv rw).map .int ++ [.int p]) := by unfold wy; rw [iv_cons]; simp
        have h2 : ((iv rw).map W.int).length + 1 ≤ LIM := by simp [iv_len]; omega
        rw [h1]
        unfold lnP wy
        generalize (iv rw).map W.int = z at *
        have h3 : 1 ≤ LIM := by decide
        simp [ofE, evE, evEs, evSs, evS, evO, evC, M.bind, M.ret, M.opt, M.fail, cmpW, eqW, asInt, asBl, asStr, asTup, asLst, asSeq, asDct, thenS, binW, iBin, fin, mkLst, quiet, asgT, asgTs, slotSet, Tgs.len, primW, mthW, mthTy, isTy, isTys, subW, setW, allOpt, startW, h2, h3]
      have hlen : primW (ls st S) .len [wy rw] = some (.int (rw.length : Nat)) := by
        have := len_prim (st := ls st S) (w := wy rw) (ws := (iv rw).map .int) rfl
        rw [this]; simp [iv_len]
      have ct : evE (callN prog wf (k + 1)) lnT [some (.int b), some (.int m), some (.cell st.length), some (wy rw), some (.int p)] (ls st S) = .ok (.bl (okW b (p :: rw))) (ls st S) := by
        have hit : evE (callN prog wf (k + 1)) (.call 16 (.cons (.var 0) (.cons lnP (.cons (.bin false .add (.bi false .len (.cons (.var 3) .nil)) (.int 1)) .nil))) []) [some (.int b), some (.int m), some (.cell st.length), some (wy rw), some (.int p)] (ls st S) = .ok ((clash (p :: rw).length (pt (b : Nat) (iv (p :: rw)) (p :: rw).length)).getD .non) (ls st S) := by
          generalize (clash (p :: rw).length (pt (b : Nat) (iv (p :: rw)) (p :: rw).length)).getD W.non = y at fc ⊢
          simp only [List.length_cons] at fc
          generalize wy (p :: rw) = z at *
          generalize wy rw = z2 at *
          generalize lnP = x at *
          have fc' : callN prog wf (k + 1) 16 [.int b, z, .int ((rw.length : Int) + 1)] (ls st S) = .ok y (ls st S) := by simpa using fc
          simp [ofE, evE, evEs, evSs, evS, evO, evC, M.bind, M.ret, M.opt, M.fail, cmpW, eqW, asInt, asBl, asStr, asTup, asLst, asSeq, thenS, binW, iBin, fin, mkLst, quiet, asgT, asgTs, slotSet, Tgs.len, mthTy, isTys, setW, allOpt, startW, c1, hlen, fc']
        unfold lnT
        show M.bind _ _ _ = _
        unfold M.bind
        simp only [hit]
        cases hk : clash (p :: rw).length (pt (b : Nat) (iv (p :: rw)) (p :: rw).length) with
        | none => rw [okW_iff.mpr hk]; rfl
        | some v =>
          obtain ⟨a, c, rfl⟩ := clash_form hk
          have : okW b (p :: rw) = false := by
            cases hq : okW b (p :: rw) with
            | false => rfl
            | true => rw [okW_iff.mp hq] at hk; cases hk
          rw [this]; rfl
      rw [show Src.at (ls st S) i (.rng ((b : Int) - 1) (-1) b) = some (.int ((b : Int) - 1 + (i : Nat) * -1)) from by simp only [Src.at, if_pos hi], ep]
      cases e3 : okW b (p :: rw) with
      | true =>
        rw [e3] at ct
        have ca : evE (callN prog wf (k + 1)) (.mt .append (.var 2) (.cons lnP .nil)) [some (.int b), some (.int m), some (.cell st.length), some (wy rw), some (.int p)] (ls st S) = .ok .non (ls st ((p :: rw) :: S)) := by
          have g1 := ls_get (st := st) (s := S)
          have g3 : (ls st S).set st.length (.lst (S.reverse.map wy ++ [wy (p :: rw)])) = ls st ((p :: rw) :: S) := by unfold ls; rw [set_last]; simp
          have hl2 : (S.reverse.map wy).length < LIM := by simpa using lenS
          generalize S.reverse.map wy = z at *
          generalize ls st S = s1 at *
          generalize lnP = x at *
          generalize wy (p :: rw) = z3 at *
          simp [ofE, evE, evEs, evSs, evS, evO, evC, M.bind, M.ret, M.opt, M.fail, cmpW, eqW, asInt, asBl, asStr, asTup, asLst, asSeq, asDct, thenS, binW, iBin, fin, mkLst, quiet, asgT, asgTs, slotSet, Tgs.len, primW, mthW, mthTy, isTy, isTys, subW, setW, allOpt, startW, g1, c1, g3, hl2]
        refine ⟨_, _, _, [some (.int b), some (.int m), some (.cell st.length), some (wy rw), some (.int p)], ls st ((p :: rw) :: S), rfl, rfl, (seq_nx ((ife_t ct).trans ((seq_nx (expr_ok ca)).trans seq_nil))).trans seq_nil, ?_, _, rfl⟩
        rw [List.filter_cons_of_pos (by exact e3), List.map_cons, List.cons_append, hS]
      | false =>
        rw [e3] at ct
        refine ⟨_, _, _, [some (.int b), some (.int m), some (.cell st.length), some (wy rw), some (.int p)], ls st S, rfl, rfl, (seq_nx ((ife_f ct).trans seq_nil)).trans seq_nil, ?_, _, rfl⟩
        rw [List.filter_cons_of_neg (by rw [e3]; decide), hS]) (fun sl st' _ => rfl) b 0 _ (ls st rest) (by show 0 + b = b; omega) ⟨by simp, x4, rfl⟩
  subst h1 h2
  refine ⟨y4, ?_⟩
  have := forS (wf := wf) (t := .name 4) eit e
  rw [this]
  have : (Src.rng ((b : Int) - 1) (-1) b).len = b := rfl
  rw [this, Nat.sub_self, List.range_eq_range']
end
end Lk76
namespace Lk76
open PySem MP
section
variable {wf k : Nat} {st : Store}
theorem line_loop {b m : Nat} (hb : 1 ≤ b) (hb2 : b ≤ 1000) (hm : m ≤ 900) : ∀ (f : Nat) (s : List (List Nat)) (n : Nat) (r : Option (List Nat)) (x3 x4 : Option W), simL b m f s = some r → f ≤ n → (∀ rw ∈ s, rw.length ≤ m) → s.length + b * f < LIM →
    match r with
    | none => ∃ sl', whileL (evE (callN prog wf (k + 1)) lnC) (evSs (callN prog wf (k + 1)) wf lnB) n [some (.int b), some (.int m), some (.cell st.length), x3, x4] (ls st s) = .ok (.nx sl') (ls st [])
    | some rw => ∃ s', whileL (evE (callN prog wf (k + 1)) lnC) (evSs (callN prog wf (k + 1)) wf lnB) n [some (.int b), some (.int m), some (.cell st.length), x3, x4] (ls st s) = .ok (.rt (wy rw)) (ls st s') := by
  intro f
  induction f with
  | zero => intro s n r x3 x4 h; cases h
  | succ f ih =>
    intro s n r x3 x4 h hn hs hl
    obtain ⟨n, rfl⟩ : ∃ j, n = j + 1 := ⟨n - 1, by omega⟩
    have hget := ls_get (st := st) (s := s)
    have hc : evE (callN prog wf (k + 1)) lnC [some (.int b), some (.int m), some (.cell st.length), x3, x4] (ls st s) = .ok (.bl (!s.isEmpty)) (ls st s) := by
      have e := ways_nil (st := ls st s) (c := st.length) (s := s.reverse) hget
      unfold lnC
      show M.bind _ _ _ = _
      unfold M.bind
      have : evE (callN prog wf (k + 1)) (.var 2) [some (.int b), some (.int m), some (.cell st.length), x3, x4] (ls st s) = .ok (.cell st.length) (ls st s) := rfl
      simp only [this]
      show M.opt ((cmpW (ls st s) .ne (.cell st.length) (.lst [])).map W.bl) (ls st s) = _
      unfold cmpW
      rw [e]
      cases s <;> simp [M.opt]
    unfold simL at h
    cases s with
    | nil =>
      cases h
      exact ⟨_, while_end hc⟩
    | cons rw rest =>
      simp only at h
      have hrl := hs rw (by simp)
      have cp : evE (callN prog wf (k + 1)) (.mt .pop (.var 2) .nil) [some (.int b), some (.int m), some (.cell st.length), x3, x4] (ls st (rw :: rest)) = .ok (wy rw) (ls st rest) := by
        have g2 : (ls st (rw :: rest))[st.length]? = some (.lst (rest.reverse.map wy ++ [wy rw])) := by rw [hget]; simp
        have g3 : (ls st (rw :: rest)).set st.length (.lst (rest.reverse.map wy)) = ls st rest := set_last
        generalize ls st (rw :: rest) = s1 at g2 g3 ⊢
        generalize rest.reverse.map wy = z at *
        generalize wy rw = z2 at *
        simp [ofE, evE, evEs, evSs, evS, evO, evC, M.bind, M.ret, M.opt, M.fail, cmpW, eqW, asInt, asBl, asStr, asTup, asLst, asSeq, asDct, thenS, binW, iBin, fin, mkLst, quiet, asgT, asgTs, slotSet, Tgs.len, primW, mthW, mthTy, isTy, isTys, subW, setW, allOpt, startW, g2, g3]
      have hlen : primW (ls st rest) .len [wy rw] = some (.int (rw.length : Nat)) := by
        have := len_prim (st := ls st rest) (w := wy rw) (ws := (iv rw).map .int) rfl
        rw [this]; simp [iv_len]
      have ce : evE (callN prog wf (k + 1)) (.cmp .eq (.bi false .len (.cons (.var 3) .nil)) (.var 1)) [some (.int b), some (.int m), some (.cell st.length), some (wy rw), x4] (ls st rest) = .ok (.bl (Nat.beq rw.length m)) (ls st rest) := by
        have : decide ((rw.length : Int) = (m : Int)) = Nat.beq rw.length m := by
          cases e : Nat.beq rw.length m with
          | true => have := Nat.eq_of_beq_eq_true e; exact decide_eq_true (by omega)
          | false => exact decide_eq_false (fun z => by have : rw.length = m := by omega
                                                        rw [this] at e; simp at e)
        rw [← this]
        generalize wy rw = z at *
        simp [ofE, evE, evEs, evSs, evS, evO, evC, M.bind, M.ret, M.opt, M.fail, cmpW, eqW, asInt, asBl, asStr, asTup, asLst, asSeq, thenS, binW, iBin, fin, mkLst, quiet, asgT, asgTs, slotSet, Tgs.len, mthTy, isTys, setW, allOpt, startW, hlen]
      cases e1 : Nat.beq rw.length m with
      | true =>
        rw [e1] at h ce
        simp only [if_true] at h
        cases h
        exact ⟨rest, while_ret hc ((seq_nx (asgN_ok cp)).trans (seq_rt ((ife_t ce).trans (seq_rt (ret_ok rfl)))))⟩
      | false =>
        rw [e1] at h ce
        simp only [Bool.false_eq_true, if_false] at h
        have hne : rw.length ≠ m := fun z => by rw [z] at e1; simp at e1
        have hbf : b * (f + 1) = b * f + b := Nat.mul_succ ..
        simp only [List.length_cons] at hl
        obtain ⟨y4, ef⟩ := line_for (wf := wf) (k := k) (st := st) (b := b) (m := m) (rw := rw) (rest := rest) (x4 := x4) hb hb2 (by omega) (by omega)
        have step : evSs (callN prog wf (k + 1)) wf lnB [some (.int b), some (.int m), some (.cell st.length), x3, x4] (ls st (rw :: rest)) = .ok (.nx [some (.int b), some (.int m), some (.cell st.length), some (wy rw), y4]) (ls st (((List.range b).filter fun p => okW b (p :: rw)).map (· :: rw) ++ rest)) :=
          (seq_nx (asgN_ok cp)).trans ((seq_nx ((ife_f ce).trans seq_nil)).trans ((seq_nx ef).trans seq_nil))
        have hfl := List.length_filter_le (fun p => okW b (p :: rw)) (List.range b)
        have := ih _ n r (some (wy rw)) y4 h (by omega) (fun r2 hr2 => by
          rcases List.mem_append.mp hr2 with z | z
          · obtain ⟨p, _, rfl⟩ := List.mem_map.mp z
            simp; omega
          · exact hs r2 (by simp [z])) (by
          simp at hfl ⊢
          omega)
        rw [while_step hc step]
        exact this
theorem lawLine {b m F : Nat} {r : Option (List Nat)} (hb : 1 ≤ b) (hb2 : b ≤ 1000) (hm : m ≤ 900) (h : simL b m F [[]] = some r) (hF : F ≤ wf) (hB : 1 + b * F < LIM) :
    ∃ s', callN prog wf (k + 2) 18 [.int b, .int m] st = .ok (match r with | none => .non | some rw => wy rw) (ls st s') := by
  have lp := line_loop (wf := wf) (k := k) (st := st) hb hb2 hm F [[]] wf r none none h hF (fun rw h => by simp at h; subst h; simp) (by simpa using hB)
  have c1 : evS (callN prog wf (k + 1)) wf (.asg (.name 2) (.lst true (.cons (.lst false .nil) .nil))) [some (.int b), some (.int m), none, none, none] st = .ok (.nx [some (.int b), some (.int m), some (.cell st.length), none, none]) (ls st [[]]) := by
    refine asgN_ok (w := .cell st.length) (st1 := ls st [[]]) ?_
    simp [ofE, evE, evEs, evSs, evS, evO, evC, M.bind, M.ret, M.opt, M.fail, cmpW, eqW, asInt, asBl, asStr, asTup, asLst, asSeq, asDct, thenS, binW, iBin, fin, mkLst, quiet, asgT, asgTs, slotSet, Tgs.len, primW, mthW, mthTy, isTy, isTys, subW, setW, allOpt, startW, LIM, ls, wy, iv]
  cases r with
  | none =>
    obtain ⟨sl', lp⟩ := lp
    refine ⟨[], call_rt (d := d__law_line) rfl rfl ?_⟩
    rw [line_body]
    exact (seq_nx c1).trans ((seq_nx (whileS lp)).trans (seq_rt (ret_ok rfl)))
  | some rw =>
    obtain ⟨s', lp⟩ := lp
    refine ⟨s', call_rt (d := d__law_line) rfl rfl ?_⟩
    rw [line_body]
    exact (seq_nx c1).trans (seq_rt (while_rt lp))
end
end Lk76
namespace Lk76
open PySem MP
/-! ### both searches, number by number -/
/-- what both find; nothing alike from the beginning in it -/
def okAt (b m : Nat) : Bool := match simF (b + 1) (m + 1) 22000 [] 0 0 with
  | some r => (match r, simL (b + 1) (m + 1) 22000 [[]] with
    | none, some none => true
    | some rw, some (some rw') => decide (rw = rw') && Nat.beq rw.length (m + 1) && rw.all (fun p => Nat.blt p (b + 1)) && (List.range (m + 1)).all (fun i => okW (b + 1) (rw.drop (m - i)))
    | _, _ => false)
  | none => false
def okRow (b : Nat) : Bool := (List.range 8).all fun m => okAt b m
theorem okRow0 : okRow 0 = true := by decide +kernel
theorem okRow1 : okRow 1 = true := by decide +kernel
theorem okRow2 : okRow 2 = true := by decide +kernel
theorem okRow3 : okRow 3 = true := by decide +kernel
theorem okRow4 : okRow 4 = true := by decide +kernel
theorem okRow5 : okRow 5 = true := by decide +kernel
theorem okRow6 : okRow 6 = true := by decide +kernel
theorem okRow7 : okRow 7 = true := by decide +kernel
theorem okRow8 : okRow 8 = true := by decide +kernel
theorem okRow9 : okRow 9 = true := by decide +kernel
theorem okRow10 : okRow 10 = true := by decide +kernel
theorem okRow11 : okRow 11 = true := by decide +kernel
theorem okRow12 : okRow 12 = true := by decide +kernel
theorem okRow13 : okRow 13 = true := by decide +kernel
theorem okRow14 : okRow 14 = true := by decide +kernel
theorem okRow15 : okRow 15 = true := by decide +kernel
theorem okRow16 : okRow 16 = true := by decide +kernel
theorem okRow17 : okRow 17 = true := by decide +kernel
theorem okRow18 : okRow 18 = true := by decide +kernel
theorem okRow19 : okRow 19 = true := by decide +kernel
theorem okRow20 : okRow 20 = true := by decide +kernel
theorem okRow21 : okRow 21 = true := by decide +kernel
theorem okRow22 : okRow 22 = true := by decide +kernel
theorem okRow23 : okRow 23 = true := by decide +kernel
theorem okRow24 : okRow 24 = true := by decide +kernel
theorem okRow25 : okRow 25 = true := by decide +kernel
theorem okRow26 : okRow 26 = true := by decide +kernel
theorem okRow27 : okRow 27 = true := by decide +kernel
theorem okRow28 : okRow 28 = true := by decide +kernel
theorem okRow29 : okRow 29 = true := by decide +kernel
theorem okAll {b m : Nat} (hb : b < 30) (hm : m < 8) : okAt b m = true := by
  have h : okRow b = true := by
    match b, hb with
    | 0, _ => exact okRow0
    | 1, _ => exact okRow1
    | 2, _ => exact okRow2
    | 3, _ => exact okRow3
    | 4, _ => exact okRow4
    | 5, _ => exact okRow5
    | 6, _ => exact okRow6
    | 7, _ => exact okRow7
    | 8, _ => exact okRow8
    | 9, _ => exact okRow9
    | 10, _ => exact okRow10
    | 11, _ => exact okRow11
    | 12, _ => exact okRow12
    | 13, _ => exact okRow13
    | 14, _ => exact okRow14
    | 15, _ => exact okRow15
    | 16, _ => exact okRow16
    | 17, _ => exact okRow17
    | 18, _ => exact okRow18
    | 19, _ => exact okRow19
    | 20, _ => exact okRow20
    | 21, _ => exact okRow21
    | 22, _ => exact okRow22
    | 23, _ => exact okRow23
    | 24, _ => exact okRow24
    | 25, _ => exact okRow25
    | 26, _ => exact okRow26
    | 27, _ => exact okRow27
    | 28, _ => exact okRow28
    | 29, _ => exact okRow29
    | n + 30, h => exact absurd h (by omega)
  exact List.all_eq_true.mp h m (List.mem_range.mpr hm)
end Lk76
namespace Lk76
open PySem MP
theorem clash_congr {m : Nat} {p q : Nat → Int} (h : ∀ i, i < m → p i = q i) : clash m p = none → clash m q = none := by
  rw [clash_none, clash_none]
  intro hp i j h1 h2
  rw [← h i (by omega), ← h j h2]
  exact hp i j h1 h2
theorem fault_none {b : Nat} {rw : List Nat} (h : ∀ i, i < rw.length → okW b (rw.drop (rw.length - 1 - i)) = true) : fault (b : Nat) (iv rw) = none := by
  unfold fault
  rw [List.findSome?_eq_none_iff]
  intro i hi
  rw [iv_len, List.mem_range'_1] at hi
  have hi : i < rw.length := by omega
  have h1 := okW_iff.mp (h i hi)
  have hl : (rw.drop (rw.length - 1 - i)).length = i + 1 := by rw [List.length_drop]; omega
  rw [hl] at h1
  have h2 : clash (i + 1) (pt (b : Nat) (iv rw) (i + 1)) = none := by
    refine clash_congr (fun j hj => ?_) h1
    rw [pt_iv (by omega), pt_iv (by omega)]
    congr 3
    simp only [List.getElem_reverse, List.getElem_drop, List.length_drop]
    congr 1
    omega
  unfold faultF
  rw [h2]
theorem okAt_some {b m : Nat} {rw : List Nat} (h : okAt b m = true) (hs : simF (b + 1) (m + 1) 22000 [] 0 0 = some (some rw)) : simL (b + 1) (m + 1) 22000 [[]] = some (some rw) ∧ rw.length = m + 1 ∧ (∀ p ∈ rw, p < b + 1) ∧ fault ((b + 1 : Nat) : Int) (iv rw) = none := by
  unfold okAt at h
  rw [hs] at h
  simp only at h
  cases e : simL (b + 1) (m + 1) 22000 [[]] with
  | none => rw [e] at h; cases h
  | some r =>
    rw [e] at h
    cases r with
    | none => cases h
    | some rw' =>
      simp only [Bool.and_eq_true, decide_eq_true_eq, List.all_eq_true, List.mem_range] at h
      obtain ⟨⟨⟨h1, h2⟩, h3⟩, h4⟩ := h
      have h2 := Nat.eq_of_beq_eq_true h2
      subst h1
      refine ⟨rfl, h2, fun p hp => ?_, fault_none fun i hi => ?_⟩
      · have := h3 p hp
        exact Nat.le_of_ble_eq_true this
      · have := h4 i (by omega)
        rw [show rw.length - 1 - i = m - i by omega]
        exact this
theorem okAt_none {b m : Nat} (h : okAt b m = true) (hs : simF (b + 1) (m + 1) 22000 [] 0 0 = some none) : simL (b + 1) (m + 1) 22000 [[]] = some none := by
  unfold okAt at h
  rw [hs] at h
  simp only at h
  cases e : simL (b + 1) (m + 1) 22000 [[]] with
  | none => rw [e] at h; cases h
  | some r =>
    rw [e] at h
    cases r with
    | none => rfl
    | some _ => cases h
theorem okAt_is {b m : Nat} (h : okAt b m = true) : ∃ r, simF (b + 1) (m + 1) 22000 [] 0 0 = some r := by
  unfold okAt at h
  cases e : simF (b + 1) (m + 1) 22000 [] 0 0 with
  | none => rw [e] at h; cases h
  | some r => exact ⟨r, rfl⟩
end Lk76
namespace Lk76
open PySem MP
def u0 : S := (.asg (.name 8) (.lc true [13] (.name 13) (.range (.cons (.bin false .add (.int 1) (.call 11 (.cons (.var 2) (.cons (.int 8) .nil)) [])) .nil)) .none (.call 11 (.cons (.var 2) (.cons (.var 3) .nil)) [])))
def u1 : S := (.ife (.and (.cmp .notn (.var 5) .non) (.cmp .lt (.var 7) (.int 3))) (.cons (.asg (.name 8) (.bi true .list (.cons (.var 5) .nil))) (.cons (.asg (.sub (.var 8) (.call 11 (.cons (.var 2) (.cons (.var 4) .nil)) [])) (.call 11 (.cons (.var 2) (.cons (.var 3) .nil)) [])) .nil)) .nil)
def u2 : S := (.asg (.tup (.cons (.name 9) (.cons (.name 10) .nil))) (.tup (.cons (.call 14 (.cons (.var 2) (.cons (.var 8) .nil)) []) (.cons (.call 17 (.cons (.var 3) (.cons (.var 8) .nil)) []) .nil))))
def u3 : S := (.asg (.tup (.cons (.name 11) (.cons (.name 12) .nil))) (.tup (.cons (.bi false .repr (.cons (.var 9) .nil)) (.cons (.lst true (.cons (.call 8 (.cons (.var 3) (.cons (.var 9) .nil)) []) .nil)) .nil))))
def u4 : S := (.expr (.mt .append (.var 12) (.cons (.callK 8 .nil (.cons (.bi false .list (.cons (.var 8) .nil)) (.cons (.var 3) .nil)) [1, 0]) .nil)))
def u5 : S := (.ife (.or (.not (.call 13 (.cons (.var 12) (.cons (.lst false (.cons (.var 10) (.cons (.var 10) .nil))) .nil)) [])) (.cmp .ne (.bi false .repr (.cons (.var 9) .nil)) (.var 11))) (.cons (.ret (.bl false)) .nil) .nil)
def uB : Ss := .cons u0 (.cons u1 (.cons u2 (.cons u3 (.cons u4 (.cons u5 (.nil))))))
def v0 : S := (.expr (.call 15 (.cons (.var 6) .nil) []))
def v1 : S := (.ife (.not (.call 13 (.cons (.lst false (.cons (.call 9 (.cons (.var 3) (.cons (.var 4) .nil)) []) (.cons (.call 8 (.cons (.var 3) (.cons (.bi false .list (.cons (.var 5) .nil)) .nil)) []) .nil))) (.cons (.lst false (.cons (.var 5) (.cons .non .nil))) .nil)) [])) (.cons (.ret (.bl false)) .nil) .nil)
def vB : Ss := .cons v0 (.cons v1 (.nil))
def t0 : S := (.asg (.name 2) (.call 10 (.cons (.bin false .add (.bi false .list (.cons (.var 0) .nil)) (.lst false (.cons (.var 1) .nil))) .nil) []))
def t1 : S := (.asg (.tup (.cons (.name 3) (.cons (.name 4) .nil))) (.tup (.cons (.bin false .add (.int 1) (.call 11 (.cons (.var 2) (.cons (.call 12 (.cons (.var 2) (.cons (.lst false (.cons (.int 3) (.cons (.int 8) (.cons (.int 30) .nil)))) .nil)) []) .nil)) [])) (.cons (.bin false .add (.int 1) (.call 11 (.cons (.var 2) (.cons (.int 8) .nil)) [])) .nil))))
def t2 : S := (.asg (.name 5) (.call 18 (.cons (.var 3) (.cons (.var 4) .nil)) []))
def t3 : S := (.asg (.name 6) (.lst true (.cons (.call 9 (.cons (.var 3) (.cons (.var 4) .nil)) []) (.cons (.callK 9 .nil (.cons (.var 4) (.cons (.var 3) .nil)) [1, 0]) .nil))))
def t4 : S := (.ife (.not (.call 13 (.cons (.var 6) (.cons (.lst false (.cons (.var 5) (.cons (.var 5) .nil))) .nil)) [])) (.cons (.ret (.bl false)) .nil) .nil)
def t5 : S := .ife (.cmp .notn (.var 5) .non) vB .nil
def t6 : S := .for (.name 7) (.range (.cons (.int 5) .nil)) uB
def tB : Ss := .cons t0 (.cons t1 (.cons t2 (.cons t3 (.cons t4 (.cons t5 (.cons t6 (.nil)))))))
theorem law_body : d_law.body = .cons (.for (.name 1) (.range (.cons (.int 5) .nil)) tB) (.cons (.ret (.bl true)) .nil) := rfl
section
variable {wf k : Nat} {st : Store} {n q B : Nat} {w0 : W} {x1 x2 x3 x4 x5 x6 x7 x8 x9 x10 x11 x12 x13 : Option W}
theorem t0_ok {is : List Int} {turn : Int} (hl : is.length ≤ 63) (hw : 2 ^ 62 ≤ wf) : evS (callN prog wf (k + 20)) wf t0 [some (.scr is), some (.int turn), x2, x3, x4, x5, x6, x7, x8, x9, x10, x11, x12, x13] st = .ok (.nx [some (.scr is), some (.int turn), some (.cell (st.length + 1)), x3, x4, x5, x6, x7, x8, x9, x10, x11, x12, x13]) (st ++ [.lst ((is ++ [turn]).map .int), .lst [.cell st.length, .int 0, .int 0, .int 19]]) ∧ Strm wf (st ++ [.lst ((is ++ [turn]).map .int), .lst [.cell st.length, .int 0, .int 0, .int 19]]) (st.length + 1) st.length (2 ^ 20) := by
  obtain ⟨e, h⟩ := stream_call (P := prog) (wf := wf) (k := k + 19) (id := 10) (B := 2 ^ 20) (st := st) (w := .lst ((is ++ [turn]).map .int)) (is := is ++ [turn]) rfl rfl (by simp; omega) (by omega)
  refine ⟨asgN_ok (w := .cell (st.length + 1)) (st1 := st ++ [.lst ((is ++ [turn]).map .int), .lst [.cell st.length, .int 0, .int 0, .int 19]]) ?_, h⟩
  have hp : primW st .list [.scr is] = some (.lst (is.map .int)) := rfl
  have h1 : (is.map W.int).length + 1 ≤ LIM := by simp [LIM]; omega
  have hL : 1 ≤ LIM := by decide
  rw [List.map_append] at e ⊢
  simp only [List.map_cons, List.map_nil] at e ⊢
  generalize is.map W.int = z at *
  generalize st ++ [Cell.lst (z ++ [W.int turn]), .lst [.cell st.length, .int 0, .int 0, .int 19]] = s1 at *
  simp [ofE, evE, evEs, evSs, evS, evO, evC, M.bind, M.ret, M.opt, M.fail, cmpW, eqW, asInt, asBl, asStr, asTup, asLst, asSeq, thenS, binW, iBin, fin, mkLst, quiet, asgT, asgTs, slotSet, Tgs.len, mthTy, isTys, setW, allOpt, startW, hp, e, h1, hL]
theorem t1_ok (h : Strm wf st n q (B + 3)) : ∃ (b m : Nat) (st' : Store), evS (callN prog wf (k + 20)) wf t1 [some w0, x1, some (.cell n), x3, x4, x5, x6, x7, x8, x9, x10, x11, x12, x13] st = .ok (.nx [some w0, x1, some (.cell n), some (.int ((b + 1 : Nat) : Int)), some (.int ((m + 1 : Nat) : Int)), x5, x6, x7, x8, x9, x10, x11, x12, x13]) st' ∧ b < 30 ∧ m < 8 ∧ Strm wf st' n q B := by
  obtain ⟨r, st1, e1, g1, h1, _⟩ := pick_call (P := prog) (wf := wf) (k := k + 18) (id := 12) (draw := 11) (w := .lst [.int 3, .int 8, .int 30]) (ws := [.int 3, .int 8, .int 30]) rfl rfl h (fun _ _ => rfl) (by simp) (by simp [LIM])
  obtain ⟨c, rfl, m1, m2⟩ : ∃ c : Int, r = .int c ∧ 0 < c ∧ c ≤ 30 := by
    simp at g1
    rcases g1 with rfl | rfl | rfl
    · exact ⟨3, rfl, by omega, by omega⟩
    · exact ⟨8, rfl, by omega, by omega⟩
    · exact ⟨30, rfl, by omega, by omega⟩
  obtain ⟨r1, st2, e2, a1, a2, h2, _⟩ := draw_call (P := prog) (wf := wf) (k := k + 19) (id := 11) (m := c) rfl h1 m1 (by omega)
  obtain ⟨r2, st3, e3, a3, a4, h3, _⟩ := draw_call (P := prog) (wf := wf) (k := k + 19) (id := 11) (m := 8) rfl h2 (by omega) (by omega)
  obtain ⟨r1, rfl⟩ := Int.eq_ofNat_of_zero_le a1
  obtain ⟨r2, rfl⟩ := Int.eq_ofNat_of_zero_le a3
  refine ⟨r1, r2, st3, asg_ok (w := .tup [.int ((r1 + 1 : Nat) : Int), .int ((r2 + 1 : Nat) : Int)]) (st1 := st3) (st' := st3) ?_ ?_, by omega, by omega, h3⟩
  · simp [ofE, evE, evEs, evSs, evS, evO, evC, M.bind, M.ret, M.opt, M.fail, cmpW, eqW, asInt, asBl, asStr, asTup, asLst, asSeq, asDct, thenS, binW, iBin, fin, mkLst, quiet, asgT, asgTs, slotSet, Tgs.len, primW, mthW, mthTy, isTy, isTys, subW, setW, allOpt, startW, LIM, e1, e2, e3, Int.add_comm]
  · simp [ofE, evE, evEs, evSs, evS, evO, evC, M.bind, M.ret, M.opt, M.fail, cmpW, eqW, asInt, asBl, asStr, asTup, asLst, asSeq, asDct, thenS, binW, iBin, fin, mkLst, quiet, asgT, asgTs, slotSet, Tgs.len, primW, mthW, mthTy, isTy, isTys, subW, setW, allOpt, startW]
/-- the value both find -/
def dueV : Option (List Nat) → W
  | none => .non
  | some rw => wy rw
theorem t2_ok {b m : Nat} {r : Option (List Nat)} (hw : 2 ^ 62 ≤ wf) (hb : b < 30) (hm : m < 8) (h : simL (b + 1) (m + 1) 22000 [[]] = some r) : ∃ l : Store, evS (callN prog wf (k + 20)) wf t2 [some w0, x1, x2, some (.int ((b + 1 : Nat) : Int)), some (.int ((m + 1 : Nat) : Int)), x5, x6, x7, x8, x9, x10, x11, x12, x13] st = .ok (.nx [some w0, x1, x2, some (.int ((b + 1 : Nat) : Int)), some (.int ((m + 1 : Nat) : Int)), some (dueV r), x6, x7, x8, x9, x10, x11, x12, x13]) (st ++ l) := by
  have hB : 1 + (b + 1) * 22000 < LIM := by
    have : LIM = 1000000 := rfl
    omega
  obtain ⟨s', e⟩ := lawLine (wf := wf) (k := k + 18) (st := st) (b := b + 1) (m := m + 1) (F := 22000) (r := r) (by omega) (by omega) (by omega) h (by omega) hB
  have e : callN prog wf (k + 20) 18 [.int ((b + 1 : Nat) : Int), .int ((m + 1 : Nat) : Int)] st = .ok (dueV r) (ls st s') := by
    cases r with
    | none => exact e
    | some rw => exact e
  refine ⟨_, asgN_ok (w := dueV r) (st1 := ls st s') ?_⟩
  generalize ((b + 1 : Nat) : Int) = x at *
  generalize ((m + 1 : Nat) : Int) = y at *
  generalize ls st s' = s1 at *
  simp [ofE, evE, evEs, evSs, evS, evO, evC, M.bind, M.ret, M.opt, M.fail, cmpW, eqW, asInt, asBl, asStr, asTup, asLst, asSeq, asDct, thenS, binW, iBin, fin, mkLst, quiet, asgT, asgTs, slotSet, Tgs.len, primW, mthW, mthTy, isTy, isTys, subW, setW, allOpt, startW, e]
/-- what a call of fair_line leaves -/
def fairV (r : Option (List Nat)) (a : Nat) : W := match r with | none => .non | some _ => .cell a
def fairC (r : Option (List Nat)) : Cell := match r with | none => .lst [] | some rw => .lst ((iv rw).map .int)
theorem fairLine2 {b m : Nat} {r : Option (List Nat)} (hb : b < 30) (hm : m < 8) (h : simF (b + 1) (m + 1) 22000 [] 0 0 = some r) (hw : 2 ^ 62 ≤ wf) : callN prog wf (k + 3) 9 [.int ((b + 1 : Nat) : Int), .int ((m + 1 : Nat) : Int)] st = .ok (fairV r st.length) (st ++ [fairC r]) := by
  have e := fairLine (wf := wf) (k := k) (st := st) (b := b + 1) (m := m + 1) (F := 22000) (r := r) (by omega) (by omega) (by omega) (by omega) h (by omega)
  cases r with
  | none => exact e
  | some rw => exact e
theorem t3_ok {b m : Nat} {r : Option (List Nat)} (hw : 2 ^ 62 ≤ wf) (hb : b < 30) (hm : m < 8) (h : simF (b + 1) (m + 1) 22000 [] 0 0 = some r) : evS (callN prog wf (k + 20)) wf t3 [some w0, x1, x2, some (.int ((b + 1 : Nat) : Int)), some (.int ((m + 1 : Nat) : Int)), x5, x6, x7, x8, x9, x10, x11, x12, x13] st = .ok (.nx [some w0, x1, x2, some (.int ((b + 1 : Nat) : Int)), some (.int ((m + 1 : Nat) : Int)), x5, some (.cell (st.length + 2)), x7, x8, x9, x10, x11, x12, x13]) (st ++ [fairC r, fairC r, .lst [fairV r st.length, fairV r (st.length + 1)]]) := by
  have e1 := fairLine2 (wf := wf) (k := k + 17) (st := st) hb hm h hw
  have e2 := fairLine2 (wf := wf) (k := k + 17) (st := st ++ [fairC r]) hb hm h hw
  rw [show (st ++ [fairC r]).length = st.length + 1 by simp] at e2
  refine asgN_ok (w := .cell (st.length + 2)) (st1 := st ++ [fairC r, fairC r, .lst [fairV r st.length, fairV r (st.length + 1)]]) ?_
  generalize ((b + 1 : Nat) : Int) = x at *
  generalize ((m + 1 : Nat) : Int) = y at *
  generalize fairV r st.length = f1 at *
  generalize fairV r (st.length + 1) = f2 at *
  generalize fairC r = c at *
  simp [ofE, evE, evEs, evSs, evS, evO, evC, M.bind, M.ret, M.opt, M.fail, cmpW, eqW, asInt, asBl, asStr, asTup, asLst, asSeq, asDct, thenS, binW, iBin, fin, mkLst, quiet, asgT, asgTs, slotSet, Tgs.len, primW, mthW, mthTy, isTy, isTys, subW, setW, allOpt, startW, LIM, e1, e2]
def dueD : Option (List Nat) → PyData
  | none => .none
  | some rw => .list ((iv rw).map .int)
theorem due_data (m : Nat) (r : Option (List Nat)) : data st (m + 1) (dueV r) = some (dueD r) := by
  cases r with
  | none => rfl
  | some rw =>
    show (allOpt (data st m) ((iv rw).map .int)).map PyData.list = _
    rw [allOpt_ints]; rfl
theorem fair_data (m : Nat) {r : Option (List Nat)} {a : Nat} (h : st[a]? = some (fairC r)) : data st (m + 1) (fairV r a) = some (dueD r) := by
  cases r with
  | none => rfl
  | some rw =>
    show (match st[a]? with | some (.lst ws) => (allOpt (data st m) ws).map PyData.list | some (.dead (.lst ws)) => (allOpt (data st m) ws).map PyData.list | _ => none) = _
    rw [h]
    show (allOpt (data st m) ((iv rw).map .int)).map PyData.list = _
    rw [allOpt_ints]; rfl
theorem small_ints (l : List Int) : smallDs (l.map .int) = true := by
  induction l with
  | nil => rfl
  | cons i l ih => simp only [List.map_cons, smallDs, smallD, ih]; rfl
theorem due_small {r : Option (List Nat)} (h : ∀ rw, r = some rw → rw.length ≤ 8) : smallD (dueD r) = true := by
  cases r with
  | none => rfl
  | some rw =>
    have := h rw rfl
    simp [dueD, smallD, small_ints, iv_len, LIM]
    omega
theorem t4_ok {r : Option (List Nat)} {c a : Nat} (hr : ∀ rw, r = some rw → rw.length ≤ 8) (hc : st[c]? = some (.lst [fairV r a, fairV r (a + 1)])) (h1 : st[a]? = some (fairC r)) (h2 : st[a + 1]? = some (fairC r)) : evS (callN prog wf (k + 20)) wf t4 [some w0, x1, x2, x3, x4, some (dueV r), some (.cell c), x7, x8, x9, x10, x11, x12, x13] st = .ok (.nx [some w0, x1, x2, x3, x4, some (dueV r), some (.cell c), x7, x8, x9, x10, x11, x12, x13]) st := by
  have d1 : data st 3 (.cell c) = some (.list [dueD r, dueD r]) := by
    show (match st[c]? with | some (.lst ws) => (allOpt (data st 2) ws).map PyData.list | some (.dead (.lst ws)) => (allOpt (data st 2) ws).map PyData.list | _ => none) = _
    rw [hc]
    simp only [allOpt, fair_data 1 h1, fair_data 1 h2, Option.map_some]
  have d2 : data st 3 (.lst [dueV r, dueV r]) = some (.list [dueD r, dueD r]) := by
    show (allOpt (data st 2) [dueV r, dueV r]).map PyData.list = _
    simp only [allOpt, due_data 1 r, Option.map_some]
  have sm : smallD (.list [dueD r, dueD r]) = true := by
    have := due_small hr
    simp [smallD, smallDs, this, LIM]
  have e := same_ok (P := prog) (wf := wf) (fid := 13) (st := st) rfl 3 (k + 20) _ _ _ (by omega) d1 d2 sm
  refine (ife_f (st' := st) ?_).trans seq_nil
  generalize dueV r = dd at *
  simp [ofE, evE, evEs, evSs, evS, evO, evC, M.bind, M.ret, M.opt, M.fail, cmpW, eqW, asInt, asBl, asStr, asTup, asLst, asSeq, asDct, thenS, binW, iBin, fin, mkLst, quiet, asgT, asgTs, slotSet, Tgs.len, primW, mthW, mthTy, isTy, isTys, subW, setW, allOpt, startW, LIM, e]
theorem t5_none {c : Nat} : evS (callN prog wf (k + 20)) wf t5 [some w0, x1, x2, x3, x4, some (dueV none), some (.cell c), x7, x8, x9, x10, x11, x12, x13] st = .ok (.nx [some w0, x1, x2, x3, x4, some (dueV none), some (.cell c), x7, x8, x9, x10, x11, x12, x13]) st := by
  refine (ife_f (st' := st) ?_).trans seq_nil
  simp [ofE, evE, evEs, evSs, evS, evO, evC, M.bind, M.ret, M.opt, M.fail, cmpW, eqW, asInt, asBl, asStr, asTup, asLst, asSeq, asDct, thenS, binW, iBin, fin, mkLst, quiet, asgT, asgTs, slotSet, Tgs.len, primW, mthW, mthTy, isTy, isTys, subW, setW, allOpt, startW, dueV]
theorem t5_some {b m c a : Nat} {rw : List Nat} (hw : 2 ^ 62 ≤ wf) (hb : b < 30) (hm : m < 8) (h : simF (b + 1) (m + 1) 22000 [] 0 0 = some (some rw)) (hl : rw.length = m + 1) (hlt : ∀ p ∈ rw, p < b + 1) (hf : fault ((b + 1 : Nat) : Int) (iv rw) = none)
    (hac : a + 1 < c) (hcl : c < st.length) (hc : st[c]? = some (.lst [.cell a, .cell (a + 1)])) (h1 : st[a]? = some (.lst ((iv rw).map .int))) (h2 : st[a + 1]? = some (.lst ((iv rw).map .int))) :
    ∃ st', evS (callN prog wf (k + 20)) wf t5 [some w0, x1, x2, some (.int ((b + 1 : Nat) : Int)), some (.int ((m + 1 : Nat) : Int)), some (dueV (some rw)), some (.cell c), x7, x8, x9, x10, x11, x12, x13] st = .ok (.nx [some w0, x1, x2, some (.int ((b + 1 : Nat) : Int)), some (.int ((m + 1 : Nat) : Int)), some (dueV (some rw)), some (.cell c), x7, x8, x9, x10, x11, x12, x13]) st' ∧ ∀ i, i < a → st'[i]? = st[i]? := by
  obtain ⟨st1, e0, s1, s2⟩ := spoilt_two (P := prog) (wf := wf) (k := k + 17) (id := 15) (c := c) (a := a) (b := a + 1) (is := iv rw) (js := iv rw) rfl hc h1 h2 (by omega) (by omega) (by omega) (by simp [iv_len, LIM]; omega) (by simp [iv_len, LIM]; omega)
  have e1 := fairLine2 (wf := wf) (k := k + 17) (st := st1) hb hm h hw
  have hget : (st1 ++ [fairC (some rw)])[st1.length]? = some (fairC (some rw)) := get_last
  have hL : primW (st1 ++ [fairC (some rw)]) .list [dueV (some rw)] = some (dueV (some rw)) := rfl
  have e2 := beginningFault (wf := wf) (k := k + 15) (st := st1 ++ [fairC (some rw)]) (b := ((b + 1 : Nat) : Int)) (w := dueV (some rw)) (l := iv rw) (by omega) (by omega) rfl rfl (by rw [iv_len]; omega) (by rw [iv_len]; omega) (fun p hp => by
    unfold iv at hp
    obtain ⟨q, hq, rfl⟩ := List.mem_map.mp hp
    have := hlt q (by simpa using hq)
    omega) (fun ns z => by cases z)
  rw [hf] at e2
  have d1 : data (st1 ++ [fairC (some rw)]) 3 (.lst [fairV (some rw) st1.length, .non]) = some (.list [dueD (some rw), .none]) := by
    show (allOpt (data (st1 ++ [fairC (some rw)]) 2) [fairV (some rw) st1.length, .non]).map PyData.list = _
    simp only [allOpt, fair_data 1 hget, Option.map_some]
    rfl
  have d2 : data (st1 ++ [fairC (some rw)]) 3 (.lst [dueV (some rw), .non]) = some (.list [dueD (some rw), .none]) := by
    show (allOpt (data (st1 ++ [fairC (some rw)]) 2) [dueV (some rw), .non]).map PyData.list = _
    simp only [allOpt, due_data 1 (some rw), Option.map_some]
    rfl
  have sm : smallD (.list [dueD (some rw), .none]) = true := by
    have := due_small (r := some rw) (fun rw' z => by cases z; omega)
    simp [smallD, smallDs, this, LIM]
  have e3 := same_ok (P := prog) (wf := wf) (fid := 13) (st := st1 ++ [fairC (some rw)]) rfl 3 (k + 20) _ _ _ (by omega) d1 d2 sm
  refine ⟨st1 ++ [fairC (some rw)], (ife_t (st' := st) (by simp [ofE, evE, evEs, evSs, evS, evO, evC, M.bind, M.ret, M.opt, M.fail, cmpW, eqW, asInt, asBl, asStr, asTup, asLst, asSeq, asDct, thenS, binW, iBin, fin, mkLst, quiet, asgT, asgTs, slotSet, Tgs.len, primW, mthW, mthTy, isTy, isTys, subW, setW, allOpt, startW, dueV, wy])).trans ((seq_nx (expr_ok (w := .non) (st1 := st1) ?_)).trans ((seq_nx ((ife_f (st' := st1 ++ [fairC (some rw)]) ?_).trans seq_nil)).trans seq_nil)), fun i hi => by rw [get_app (by omega), s2 i (by omega) (by omega) (by omega)]⟩
  · simp [ofE, evE, evEs, evSs, evS, evO, evC, M.bind, M.ret, M.opt, M.fail, cmpW, eqW, asInt, asBl, asStr, asTup, asLst, asSeq, asDct, thenS, binW, iBin, fin, mkLst, quiet, asgT, asgTs, slotSet, Tgs.len, primW, mthW, mthTy, isTy, isTys, subW, setW, allOpt, startW, e0]
  · have e2 : callN prog wf (k + 20) 8 [.int ((b + 1 : Nat) : Int), dueV (some rw)] (st1 ++ [fairC (some rw)]) = .ok .non (st1 ++ [fairC (some rw)]) := e2
    clear d1 d2 hget h1 h2 hc
    generalize ((b + 1 : Nat) : Int) = x at *
    generalize ((m + 1 : Nat) : Int) = y at *
    generalize dueV (some rw) = dd at *
    generalize fairV (some rw) st1.length = f1 at *
    generalize st1 ++ [fairC (some rw)] = s2' at *
    simp [ofE, evE, evEs, evSs, evS, evO, evC, M.bind, M.ret, M.opt, M.fail, cmpW, eqW, asInt, asBl, asStr, asTup, asLst, asSeq, thenS, binW, iBin, fin, mkLst, quiet, asgT, asgTs, slotSet, Tgs.len, mthTy, isTys, setW, allOpt, startW, LIM, e1, hL, e2, e3]
end
end Lk76
namespace Lk76
open PySem MP
section
variable {wf k : Nat} {st : Store} {n q B : Nat} {w0 : W} {x1 x2 x3 x4 x5 x6 x7 x8 x9 x10 x11 x12 x13 : Option W}
theorem u0_ok {b : Nat} (hb : b < 30) (h : Strm wf st n q (B + 9)) : ∃ (l : List Int) (c : Nat) (st' : Store), evS (callN prog wf (k + 20)) wf u0 [some w0, x1, some (.cell n), some (.int ((b + 1 : Nat) : Int)), x4, x5, x6, x7, x8, x9, x10, x11, x12, x13] st = .ok (.nx [some w0, x1, some (.cell n), some (.int ((b + 1 : Nat) : Int)), x4, x5, x6, x7, some (.cell c), x9, x10, x11, x12, x13]) st' ∧ st'[c]? = some (.lst (l.map .int)) ∧ c ≠ n ∧ c ≠ q ∧ 1 ≤ l.length ∧ l.length ≤ 8 ∧ (∀ p ∈ l, 0 ≤ p ∧ p < ((b + 1 : Nat) : Int)) ∧ Strm wf st' n q B := by
  have hL : LIM = 1000000 := rfl
  obtain ⟨r, st1, e1, a1, a2, h1, _⟩ := draw_call (P := prog) (wf := wf) (k := k + 19) (id := 11) (m := 8) (B := B + 8) rfl h (by omega) (by omega)
  obtain ⟨r, rfl⟩ := Int.eq_ofNat_of_zero_le a1
  have eit : evIt (callN prog wf (k + 20)) (.range (.cons (.bin false .add (.int 1) (.call 11 (.cons (.var 2) (.cons (.int 8) .nil)) [])) .nil)) [some w0, x1, some (.cell n), some (.int ((b + 1 : Nat) : Int)), x4, x5, x6, x7, x8, x9, x10, x11, x12, x13] st = .ok (.rng 0 1 (r + 1)) st1 := by
    refine evIt_rng (w := .int ((r + 1 : Nat) : Int)) ?_ (rg1 (by omega))
    simp [ofE, evE, evEs, evSs, evS, evO, evC, M.bind, M.ret, M.opt, M.fail, cmpW, eqW, asInt, asBl, asStr, asTup, asLst, asSeq, asDct, thenS, binW, iBin, fin, mkLst, quiet, asgT, asgTs, slotSet, Tgs.len, primW, mthW, mthTy, isTy, isTys, subW, setW, allOpt, startW, e1, Int.add_comm]
  obtain ⟨ws, st2, e2, l, rfl, hl, hp, h2⟩ := lc_inv (src := .rng 0 1 (r + 1)) (step := fun x => stepW (asgT (callN prog wf (k + 20)) (.name 13) x (wipeW [some w0, x1, some (.cell n), some (.int ((b + 1 : Nat) : Int)), x4, x5, x6, x7, x8, x9, x10, x11, x12, x13] [13])) (evC (callN prog wf (k + 20)) .none) (evE (callN prog wf (k + 20)) (.call 11 (.cons (.var 2) (.cons (.var 3) .nil)) [])))
    (fun i acc st' => ∃ l : List Int, acc = l.map .int ∧ l.length = i ∧ (∀ p ∈ l, 0 ≤ p ∧ p < ((b + 1 : Nat) : Int)) ∧ Strm wf st' n q (B + 8 - i))
    (fun i acc st' hi ⟨l, hacc, hl, hp, hs⟩ => by
      have hi : i < r + 1 := hi
      subst hacc
      obtain ⟨v, st3, e3, v1, v2, h3, _⟩ := draw_call (P := prog) (wf := wf) (k := k + 19) (id := 11) (m := ((b + 1 : Nat) : Int)) (B := B + 8 - (i + 1)) rfl (by rw [show B + 8 - (i + 1) + 1 = B + 8 - i by omega]; exact hs) (by omega) (by omega)
      refine ⟨.int (0 + (i : Nat) * 1), some (.int v), st3, by simp only [Src.at, if_pos hi], ?_, l ++ [v], by simp, by simp [hl], fun p hp' => ?_, h3⟩
      · generalize ((b + 1 : Nat) : Int) = x at *
        simp [stepW, wipeW, ofE, evE, evEs, evSs, evS, evO, evC, M.bind, M.ret, M.opt, M.fail, cmpW, eqW, asInt, asBl, asStr, asTup, asLst, asSeq, asDct, thenS, binW, iBin, fin, mkLst, quiet, asgT, asgTs, slotSet, Tgs.len, primW, mthW, mthTy, isTy, isTys, subW, setW, allOpt, startW, e3]
      · rcases List.mem_append.mp hp' with z | z
        · exact hp p z
        · simp at z; subst z; exact ⟨v1, v2⟩) (fun acc st' _ => rfl) (r + 1) 0 [] st1 (by show 0 + (r + 1) = r + 1; omega) ⟨[], rfl, rfl, (fun p hp => by cases hp), h1⟩
  have hl : l.length = r + 1 := hl
  have h2' : Strm wf st2 n q B := h2.less (by show B ≤ B + 8 - (r + 1); omega)
  have ec := lc_ok (c := true) (own := [13]) (t := .name 13) (cond := .none) (elt := .call 11 (.cons (.var 2) (.cons (.var 3) .nil)) []) eit (by show r + 1 ≤ LIM; omega) e2
  refine ⟨l, st2.length, st2 ++ [.lst (l.map .int)], asgN_ok (w := .cell st2.length) (ec.trans rfl), get_last, ?_, ?_, by omega, by omega, hp, h2'.app _⟩
  · have := h2'.lt.1; omega
  · have := h2'.lt.2; omega
theorem u1_no {r : Option (List Nat)} {again : Int} (hr : r = none ∨ 3 ≤ again) : evS (callN prog wf (k + 20)) wf u1 [some w0, x1, x2, x3, x4, some (dueV r), x6, some (.int again), x8, x9, x10, x11, x12, x13] st = .ok (.nx [some w0, x1, x2, x3, x4, some (dueV r), x6, some (.int again), x8, x9, x10, x11, x12, x13]) st := by
  refine (ife_f (st' := st) ?_).trans seq_nil
  rcases hr with rfl | hr
  · simp [ofE, evE, evEs, evSs, evS, evO, evC, M.bind, M.ret, M.opt, M.fail, cmpW, eqW, asInt, asBl, asStr, asTup, asLst, asSeq, asDct, thenS, binW, iBin, fin, mkLst, quiet, asgT, asgTs, slotSet, Tgs.len, primW, mthW, mthTy, isTy, isTys, subW, setW, allOpt, startW, dueV]
  · have h2 : ¬ again < 3 := by omega
    cases r with
    | none => simp [ofE, evE, evEs, evSs, evS, evO, evC, M.bind, M.ret, M.opt, M.fail, cmpW, eqW, asInt, asBl, asStr, asTup, asLst, asSeq, asDct, thenS, binW, iBin, fin, mkLst, quiet, asgT, asgTs, slotSet, Tgs.len, primW, mthW, mthTy, isTy, isTys, subW, setW, allOpt, startW, dueV]
    | some rw => simp [ofE, evE, evEs, evSs, evS, evO, evC, M.bind, M.ret, M.opt, M.fail, cmpW, eqW, asInt, asBl, asStr, asTup, asLst, asSeq, asDct, thenS, binW, iBin, fin, mkLst, quiet, asgT, asgTs, slotSet, Tgs.len, primW, mthW, mthTy, isTy, isTys, subW, setW, allOpt, startW, dueV, wy, h2]
theorem u1_yes {rw : List Nat} {again : Int} {b m : Nat} (ha : again < 3) (hb : b < 30) (hm : m < 8) (hl : rw.length = m + 1) (hlt : ∀ p ∈ rw, p < b + 1) (h : Strm wf st n q (B + 2)) : ∃ (l : List Int) (c : Nat) (st' : Store), evS (callN prog wf (k + 20)) wf u1 [some w0, x1, some (.cell n), some (.int ((b + 1 : Nat) : Int)), some (.int ((m + 1 : Nat) : Int)), some (dueV (some rw)), x6, some (.int again), x8, x9, x10, x11, x12, x13] st = .ok (.nx [some w0, x1, some (.cell n), some (.int ((b + 1 : Nat) : Int)), some (.int ((m + 1 : Nat) : Int)), some (dueV (some rw)), x6, some (.int again), some (.cell c), x9, x10, x11, x12, x13]) st' ∧ st'[c]? = some (.lst (l.map .int)) ∧ c ≠ n ∧ c ≠ q ∧ 1 ≤ l.length ∧ l.length ≤ 8 ∧ (∀ p ∈ l, 0 ≤ p ∧ p < ((b + 1 : Nat) : Int)) ∧ Strm wf st' n q B := by
  have hpl : primW st .list [.lst ((iv rw).map .int)] = some (.lst ((iv rw).map .int)) := rfl
  have c1 : evE (callN prog wf (k + 20)) (.bi true .list (.cons (.var 5) .nil)) [some w0, x1, some (.cell n), some (.int ((b + 1 : Nat) : Int)), some (.int ((m + 1 : Nat) : Int)), some (dueV (some rw)), x6, some (.int again), x8, x9, x10, x11, x12, x13] st = .ok (.cell st.length) (st ++ [.lst ((iv rw).map .int)]) := by
    generalize ((b + 1 : Nat) : Int) = x at *
    generalize ((m + 1 : Nat) : Int) = y at *
    simp [ofE, evE, evEs, evSs, evS, evO, evC, M.bind, M.ret, M.opt, M.fail, cmpW, eqW, asInt, asBl, asStr, asTup, asLst, asSeq, thenS, binW, iBin, fin, mkLst, quiet, asgT, asgTs, slotSet, Tgs.len, mthTy, isTys, setW, allOpt, startW, hpl, dueV, wy]
  obtain ⟨n1, q1⟩ := h.lt
  obtain ⟨v, st1, e1, v1, v2, h1, s1⟩ := draw_call (P := prog) (wf := wf) (k := k + 19) (id := 11) (m := ((b + 1 : Nat) : Int)) (B := B + 1) rfl (h.app [.lst ((iv rw).map .int)]) (by omega) (by omega)
  obtain ⟨u, st2, e2, u1, u2, h2, s2⟩ := draw_call (P := prog) (wf := wf) (k := k + 19) (id := 11) (m := ((m + 1 : Nat) : Int)) (B := B) rfl h1 (by omega) (by omega)
  obtain ⟨u, rfl⟩ := Int.eq_ofNat_of_zero_le u1
  have g2 : st2[st.length]? = some (.lst ((iv rw).map .int)) := by rw [s2.at_ _ (by omega) (by omega), s1.at_ _ (by omega) (by omega)]; exact get_last
  have hiv : (iv rw).length = m + 1 := by rw [iv_len]; exact hl
  have cs : ((iv rw).map W.int).set u (.int v) = ((iv rw).set u v).map .int := by rw [List.map_set]
  have c2 : evS (callN prog wf (k + 20)) wf (.asg (.sub (.var 8) (.call 11 (.cons (.var 2) (.cons (.var 4) .nil)) [])) (.call 11 (.cons (.var 2) (.cons (.var 3) .nil)) [])) [some w0, x1, some (.cell n), some (.int ((b + 1 : Nat) : Int)), some (.int ((m + 1 : Nat) : Int)), some (dueV (some rw)), x6, some (.int again), some (.cell st.length), x9, x10, x11, x12, x13] (st ++ [.lst ((iv rw).map .int)]) = .ok (.nx [some w0, x1, some (.cell n), some (.int ((b + 1 : Nat) : Int)), some (.int ((m + 1 : Nat) : Int)), some (dueV (some rw)), x6, some (.int again), some (.cell st.length), x9, x10, x11, x12, x13]) (st2.set st.length (.lst (((iv rw).set u v).map .int))) := by
    refine asg_ok (w := .int v) (st1 := st1) ?_ ?_
    · generalize ((b + 1 : Nat) : Int) = x at *
      generalize ((m + 1 : Nat) : Int) = y at *
      generalize st ++ [Cell.lst ((iv rw).map .int)] = s3 at *
      simp [ofE, evE, evEs, evSs, evS, evO, evC, M.bind, M.ret, M.opt, M.fail, cmpW, eqW, asInt, asBl, asStr, asTup, asLst, asSeq, asDct, thenS, binW, iBin, fin, mkLst, quiet, asgT, asgTs, slotSet, Tgs.len, primW, mthW, mthTy, isTy, isTys, subW, setW, allOpt, startW, e1]
    · have hix : L2.ixN ((iv rw).map W.int).length (u : Int) = some u := by
        unfold L2.ixN
        simp [hiv]
        omega
      rw [← cs]
      generalize (iv rw).map W.int = z at *
      generalize ((b + 1 : Nat) : Int) = x at *
      generalize ((m + 1 : Nat) : Int) = y at *
      simp [ofE, evE, evEs, evSs, evS, evO, evC, M.bind, M.ret, M.opt, M.fail, cmpW, eqW, asInt, asBl, asStr, asTup, asLst, asSeq, asDct, thenS, binW, iBin, fin, mkLst, quiet, asgT, asgTs, slotSet, Tgs.len, primW, mthW, mthTy, isTy, isTys, subW, setW, allOpt, startW, e2, g2, hix]
  refine ⟨(iv rw).set u v, st.length, st2.set st.length (.lst (((iv rw).set u v).map .int)), (ife_t (st' := st) ?_).trans ((seq_nx (asgN_ok c1)).trans ((seq_nx c2).trans seq_nil)), set_same g2, by omega, by omega, by simp; omega, by simp; omega, fun p hp => ?_, h2.at (set_other (by omega)) (set_other (by omega))⟩
  · simp [ofE, evE, evEs, evSs, evS, evO, evC, M.bind, M.ret, M.opt, M.fail, cmpW, eqW, asInt, asBl, asStr, asTup, asLst, asSeq, asDct, thenS, binW, iBin, fin, mkLst, quiet, asgT, asgTs, slotSet, Tgs.len, primW, mthW, mthTy, isTy, isTys, subW, setW, allOpt, startW, dueV, wy, ha]
  · rcases List.mem_or_eq_of_mem_set hp with z | z
    · unfold iv at z
      obtain ⟨q', hq, rfl⟩ := List.mem_map.mp z
      have := hlt q' (by simpa using hq)
      omega
    · subst z; exact ⟨v1, v2⟩
end
end Lk76
namespace Lk76
open PySem MP
theorem shown_small (p : Fin 31) : (PyData.shown (.int ((p : Nat) : Int))).length ≤ 2 := by revert p; decide +kernel
theorem shown_len {p : Int} (h0 : 0 ≤ p) (h1 : p < 31) : (PyData.shown (.int p)).length ≤ 2 := by
  obtain ⟨n, rfl⟩ := Int.eq_ofNat_of_zero_le h0
  exact shown_small ⟨n, by omega⟩
theorem textFrom_le : ∀ (ts : List Str) (k : Nat) (acc : Str), (textFrom k acc ts).length ≤ acc.length + piled ts
  | [], k, acc => by show acc.length ≤ _; simp [piled]
  | t :: r, k, acc => by
    have h := textFrom_le r (k + 1) (acc ++ (if k > 0 then ", " else "" : String) ++ t)
    have e : (acc ++ (if k > 0 then ", " else "" : String) ++ t).length ≤ acc.length + 2 + t.length := by
      rw [strLen_append, strLen_append]
      by_cases hk : k > 0
      · rw [if_pos hk]; exact Nat.add_le_add_right (Nat.add_le_add_left (by decide) _) _
      · rw [if_neg hk]; exact Nat.add_le_add_right (Nat.add_le_add_left (by decide) _) _
    rw [piled_cons]
    show (textFrom (k + 1) _ r).length ≤ _
    omega
theorem piled_ints : ∀ l : List Int, (∀ p ∈ l, 0 ≤ p ∧ p < 31) → piled (PyData.shownAll (l.map .int)) ≤ 4 * l.length
  | [], _ => by simp [PyData.shownAll, piled]
  | p :: l, h => by
    have h1 := piled_ints l fun q hq => h q (by simp [hq])
    have h2 := shown_len (h p (by simp)).1 (h p (by simp)).2
    simp only [List.map_cons, PyData.shownAll, piled_cons, List.length_cons]
    omega
theorem shownAll_len : ∀ l : List Int, (PyData.shownAll (l.map .int)).length = l.length
  | [] => rfl
  | p :: l => by simp only [List.map_cons, PyData.shownAll, List.length_cons, shownAll_len l]
theorem showable_ints : ∀ l : List Int, (∀ p ∈ l, 0 ≤ p ∧ p < 31) → PyData.showableAll (l.map .int) = true
  | [], _ => rfl
  | p :: l, h => by
    have h1 := showable_ints l fun q hq => h q (by simp [hq])
    have h2 := h p (by simp)
    have h3 : p.natAbs.log2 < 1920 := by
      have : p.natAbs.log2 < 6 := by
        rcases Nat.eq_zero_or_pos p.natAbs with z | z
        · rw [z]; decide
        · exact (Nat.log2_lt (by omega)).mpr (by omega)
      omega
    simp only [List.map_cons, PyData.showableAll, PyData.showable, h1, decide_eq_true h3, Bool.and_self]
theorem repr_some {r : W} {l : List Int} (h : r = .lst (l.map .int) ∨ r = .tup (l.map .int)) (hl1 : 1 ≤ l.length) (hl : l.length ≤ 8) (hp : ∀ p ∈ l, 0 ≤ p ∧ p < 31) : ∃ s : Str, ∀ st : Store, primW st .repr [r] = some (.str s) := by
  have hL : LIM = 1000000 := rfl
  have h1 := showable_ints l hp
  have h2 := piled_ints l hp
  have key : ∀ d : PyData, (∀ st : Store, data st DEPTH r = some d) → PyData.showable d = true → d.depth ≤ 64 → d.shown.length ≤ LIM → ∃ s : Str, ∀ st : Store, primW st .repr [r] = some (.str s) := fun d e a b c => by
    refine ⟨d.shown, fun st => ?_⟩
    show (data st DEPTH r).bind (fun d => if PyData.showable d && decide (d.depth ≤ 64) && decide (d.shown.length ≤ LIM) then some (W.str d.shown) else none) = _
    rw [e]
    show (if PyData.showable d && decide (d.depth ≤ 64) && decide (d.shown.length ≤ LIM) then some (W.str d.shown) else none) = _
    rw [if_pos (by rw [a, decide_eq_true b, decide_eq_true c]; rfl)]
  rcases h with rfl | rfl
  · refine key (.list (l.map .int)) ?_ h1 ?_ ?_
    · intro st
      show (allOpt (data st 39) (l.map .int)).map PyData.list = _
      rw [allOpt_ints]; rfl
    · show PyData.depthAll (l.map .int) + 1 ≤ 64
      rw [depth_ints]; decide
    · show (textFrom 0 "[" (PyData.shownAll (l.map .int)) ++ ("]" : Str)).length ≤ LIM
      rw [strLen_append]
      have h3 := textFrom_le (PyData.shownAll (l.map .int)) 0 "["
      have h4 : (("[" : String) : Str).length = 1 := by decide
      have h5 : (("]" : String) : Str).length = 1 := by decide
      omega
  · refine key (.tuple (l.map .int)) ?_ h1 ?_ ?_
    · intro st
      show (allOpt (data st 39) (l.map .int)).map PyData.tuple = _
      rw [allOpt_ints]; rfl
    · show PyData.depthAll (l.map .int) + 1 ≤ 64
      rw [depth_ints]; decide
    · show (tupleText (PyData.shownAll (l.map .int))).length ≤ LIM
      unfold tupleText
      rw [strLen_append, strLen_append]
      have h3 := join_length_add (PyData.shownAll (l.map .int)) (by intro z; have := shownAll_len l; rw [z] at this; simp at this; omega)
      have h4 : (("(" : String) : Str).length = 1 := by decide
      have h5 : ((if (PyData.shownAll (l.map .int)).length == 1 then ",)" else ")" : String) : Str).length ≤ 2 := by split <;> decide
      omega
end Lk76
namespace Lk76
open PySem MP
section
variable {wf k : Nat} {st : Store} {n q B : Nat} {w0 : W} {x1 x2 x3 x4 x5 x6 x7 x8 x9 x10 x11 x12 x13 : Option W}
def fV (b : Int) (l : List Int) : W := (fault b l).getD .non
theorem u2_ok {b c : Nat} {l : List Int} (hb : b < 30) (hc : st[c]? = some (.lst (l.map .int))) (hcn : c ≠ n) (hcq : c ≠ q) (hl1 : 1 ≤ l.length) (hl : l.length ≤ 8) (h : Strm wf st n q (B + 1)) : ∃ (r : W) (st' : Store), evS (callN prog wf (k + 20)) wf u2 [some w0, x1, some (.cell n), some (.int ((b + 1 : Nat) : Int)), x4, x5, x6, x7, some (.cell c), x9, x10, x11, x12, x13] st = .ok (.nx [some w0, x1, some (.cell n), some (.int ((b + 1 : Nat) : Int)), x4, x5, x6, x7, some (.cell c), some r, some (fV ((b + 1 : Nat) : Int) l), x11, x12, x13]) st' ∧ (r = .lst (l.map .int) ∨ r = .tup (l.map .int)) ∧ st'[c]? = some (.lst (l.map .int)) ∧ Strm wf st' n q B := by
  have hL : LIM = 1000000 := rfl
  obtain ⟨r, st1, e1, hr, h1, s1⟩ := loose_flat (P := prog) (wf := wf) (k := k + 18) (id := 14) (draw := 11) (w := .cell c) (is := l) rfl rfl h (by simp only [asSeq, asLst, hc]) (by simp only [isTys, isTy, hc]) (by omega)
  have hc1 : st1[c]? = some (.lst (l.map .int)) := by rw [s1.at_ c hcn hcq]; exact hc
  have e2 := lawFault (wf := wf) (k := k + 18) (st := st1) (b := ((b + 1 : Nat) : Int)) (w := .cell c) (l := l) (by omega) (by omega) (by simp only [asSeq, asLst, hc1]) (by omega)
  refine ⟨r, st1, asg_ok (w := .tup [r, fV ((b + 1 : Nat) : Int) l]) (st1 := st1) (st' := st1) ?_ ?_, hr, hc1, h1⟩
  · unfold fV
    generalize (fault ((b + 1 : Nat) : Int) l).getD .non = y at *
    generalize ((b + 1 : Nat) : Int) = x at *
    simp [ofE, evE, evEs, evSs, evS, evO, evC, M.bind, M.ret, M.opt, M.fail, cmpW, eqW, asInt, asBl, asStr, asTup, asLst, asSeq, asDct, thenS, binW, iBin, fin, mkLst, quiet, asgT, asgTs, slotSet, Tgs.len, primW, mthW, mthTy, isTy, isTys, subW, setW, allOpt, startW, LIM, e1, e2]
  · simp [ofE, evE, evEs, evSs, evS, evO, evC, M.bind, M.ret, M.opt, M.fail, cmpW, eqW, asInt, asBl, asStr, asTup, asLst, asSeq, asDct, thenS, binW, iBin, fin, mkLst, quiet, asgT, asgTs, slotSet, Tgs.len, primW, mthW, mthTy, isTy, isTys, subW, setW, allOpt, startW]
theorem u3_ok {b : Nat} {l : List Int} {r : W} {s : Str} (hb : b < 30) (hr : r = .lst (l.map .int) ∨ r = .tup (l.map .int)) (hl1 : 1 ≤ l.length) (hl : l.length ≤ 8) (hp : ∀ p ∈ l, 0 ≤ p ∧ p < ((b + 1 : Nat) : Int)) (hs : primW st .repr [r] = some (.str s)) : evS (callN prog wf (k + 20)) wf u3 [some w0, x1, x2, some (.int ((b + 1 : Nat) : Int)), x4, x5, x6, x7, x8, some r, x10, x11, x12, x13] st = .ok (.nx [some w0, x1, x2, some (.int ((b + 1 : Nat) : Int)), x4, x5, x6, x7, x8, some r, x10, some (.str s), some (.cell st.length), x13]) (st ++ [.lst [fV ((b + 1 : Nat) : Int) l]]) := by
  have e1 := beginningFault (wf := wf) (k := k + 15) (st := st) (b := ((b + 1 : Nat) : Int)) (w := r) (l := l) (by omega) (by omega) (by rcases hr with rfl | rfl <;> rfl) (by rcases hr with rfl | rfl <;> rfl) hl1 (by omega) hp (fun ns z => by rcases hr with rfl | rfl <;> cases z)
  refine asg_ok (w := .tup [.str s, .cell st.length]) (st1 := st ++ [.lst [fV ((b + 1 : Nat) : Int) l]]) (st' := st ++ [.lst [fV ((b + 1 : Nat) : Int) l]]) ?_ ?_
  · unfold fV
    generalize (fault ((b + 1 : Nat) : Int) l).getD .non = y at *
    generalize ((b + 1 : Nat) : Int) = x at *
    simp [ofE, evE, evEs, evSs, evS, evO, evC, M.bind, M.ret, M.opt, M.fail, cmpW, eqW, asInt, asBl, asStr, asTup, asLst, asSeq, thenS, binW, iBin, fin, mkLst, quiet, asgT, asgTs, slotSet, Tgs.len, mthTy, isTys, setW, allOpt, startW, LIM, e1, hs]
  · simp [ofE, evE, evEs, evSs, evS, evO, evC, M.bind, M.ret, M.opt, M.fail, cmpW, eqW, asInt, asBl, asStr, asTup, asLst, asSeq, asDct, thenS, binW, iBin, fin, mkLst, quiet, asgT, asgTs, slotSet, Tgs.len, primW, mthW, mthTy, isTy, isTys, subW, setW, allOpt, startW]
theorem u4_ok {b c g : Nat} {l : List Int} (hb : b < 30) (hc : st[c]? = some (.lst (l.map .int))) (hg : st[g]? = some (.lst [fV ((b + 1 : Nat) : Int) l])) (hl1 : 1 ≤ l.length) (hl : l.length ≤ 8) (hp : ∀ p ∈ l, 0 ≤ p ∧ p < ((b + 1 : Nat) : Int)) : evS (callN prog wf (k + 20)) wf u4 [some w0, x1, x2, some (.int ((b + 1 : Nat) : Int)), x4, x5, x6, x7, some (.cell c), x9, x10, x11, some (.cell g), x13] st = .ok (.nx [some w0, x1, x2, some (.int ((b + 1 : Nat) : Int)), x4, x5, x6, x7, some (.cell c), x9, x10, x11, some (.cell g), x13]) (st.set g (.lst [fV ((b + 1 : Nat) : Int) l, fV ((b + 1 : Nat) : Int) l])) := by
  have hpl : primW st .list [.cell c] = some (.lst (l.map .int)) := by
    show (asSeq st (.cell c)).map W.lst = _
    have : asSeq st (.cell c) = some (l.map .int) := by simp only [asSeq, asLst, hc]
    rw [this]; rfl
  have e1 := beginningFault (wf := wf) (k := k + 15) (st := st) (b := ((b + 1 : Nat) : Int)) (w := .lst (l.map .int)) (l := l) (by omega) (by omega) rfl rfl hl1 (by omega) hp (fun ns z => by cases z)
  refine expr_ok (w := .non) ?_
  unfold fV at *
  generalize (fault ((b + 1 : Nat) : Int) l).getD .non = y at *
  generalize ((b + 1 : Nat) : Int) = x at *
  generalize l.map W.int = z at *
  simp [ofE, evE, evEs, evSs, evS, evO, evC, M.bind, M.ret, M.opt, M.fail, cmpW, eqW, asInt, asBl, asStr, asTup, asLst, asSeq, thenS, binW, iBin, fin, mkLst, quiet, asgT, asgTs, slotSet, Tgs.len, mthTy, isTys, setW, allOpt, startW, mthW, isTy, LIM, e1, hpl, hg]
theorem fault_form {b : Int} {l : List Int} {v : W} (h : fault b l = some v) : ∃ x y z : Int, v = .tup [.int x, .int y, .int z] := by
  unfold fault at h
  obtain ⟨i, _, h⟩ := List.exists_of_findSome?_eq_some h
  unfold faultF at h
  cases e : clash (i + 1) (pt b l (i + 1)) with
  | none => rw [e] at h; cases h
  | some w =>
    obtain ⟨a, c, rfl⟩ := clash_form e
    rw [e] at h
    cases h
    exact ⟨_, _, _, rfl⟩
theorem fV_data (m : Nat) (b : Int) (l : List Int) : ∃ d, data st (m + 2) (fV b l) = some d ∧ smallD d = true := by
  unfold fV
  cases e : fault b l with
  | none => exact ⟨.none, rfl, rfl⟩
  | some v =>
    obtain ⟨x, y, z, rfl⟩ := fault_form e
    exact ⟨.tuple [.int x, .int y, .int z], rfl, by simp [smallD, smallDs, LIM]⟩
theorem u5_ok {b : Int} {g : Nat} {l : List Int} {r : W} {s : Str} (hg : st[g]? = some (.lst [fV b l, fV b l])) (hs : primW st .repr [r] = some (.str s)) : evS (callN prog wf (k + 20)) wf u5 [some w0, x1, x2, x3, x4, x5, x6, x7, x8, some r, some (fV b l), some (.str s), some (.cell g), x13] st = .ok (.nx [some w0, x1, x2, x3, x4, x5, x6, x7, x8, some r, some (fV b l), some (.str s), some (.cell g), x13]) st := by
  obtain ⟨d, hd, sm⟩ := fV_data (st := st) 0 b l
  have d1 : data st 3 (.cell g) = some (.list [d, d]) := by
    show (match st[g]? with | some (.lst ws) => (allOpt (data st 2) ws).map PyData.list | some (.dead (.lst ws)) => (allOpt (data st 2) ws).map PyData.list | _ => none) = _
    rw [hg]
    simp only [allOpt, hd, Option.map_some]
  have d2 : data st 3 (.lst [fV b l, fV b l]) = some (.list [d, d]) := by
    show (allOpt (data st 2) [fV b l, fV b l]).map PyData.list = _
    simp only [allOpt, hd, Option.map_some]
  have e := same_ok (P := prog) (wf := wf) (fid := 13) (st := st) rfl 3 (k + 20) _ _ _ (by omega) d1 d2 (by simp [smallD, smallDs, sm, LIM])
  refine (ife_f (st' := st) ?_).trans seq_nil
  clear hg hd d1 d2
  generalize fV b l = y at *
  simp [ofE, evE, evEs, evSs, evS, evO, evC, M.bind, M.ret, M.opt, M.fail, cmpW, eqW, asInt, asBl, asStr, asTup, asLst, asSeq, thenS, binW, iBin, fin, mkLst, quiet, asgT, asgTs, slotSet, Tgs.len, mthTy, isTys, setW, allOpt, startW, LIM, e, hs]
end
end Lk76
namespace Lk76
open PySem MP
section
variable {wf k : Nat} {st : Store} {n q B : Nat} {w0 : W} {x1 x2 x3 x4 x5 x6 x7 x8 x9 x10 x11 x12 x13 : Option W}
/-- a turn of the inner loop -/
theorem uB_ok {b m : Nat} {r : Option (List Nat)} {again : Int} (hb : b < 30) (hm : m < 8) (hr : ∀ rw, r = some rw → rw.length = m + 1 ∧ ∀ p ∈ rw, p < b + 1) (h : Strm wf st n q (B + 12)) : ∃ (y8 y9 y10 y11 y12 : Option W) (st' : Store), evSs (callN prog wf (k + 20)) wf uB [some w0, x1, some (.cell n), some (.int ((b + 1 : Nat) : Int)), some (.int ((m + 1 : Nat) : Int)), some (dueV r), x6, some (.int again), x8, x9, x10, x11, x12, x13] st = .ok (.nx [some w0, x1, some (.cell n), some (.int ((b + 1 : Nat) : Int)), some (.int ((m + 1 : Nat) : Int)), some (dueV r), x6, some (.int again), y8, y9, y10, y11, y12, x13]) st' ∧ Strm wf st' n q B := by
  obtain ⟨l0, c0, st0, e0, g0, n0, q0, a0, b0, p0, h0⟩ := u0_ok (wf := wf) (k := k) (B := B + 3) (w0 := w0) (x1 := x1) (x4 := some (.int ((m + 1 : Nat) : Int))) (x5 := some (dueV r)) (x6 := x6) (x7 := some (.int again)) (x8 := x8) (x9 := x9) (x10 := x10) (x11 := x11) (x12 := x12) (x13 := x13) hb h
  obtain ⟨l, c, st1, e1, g1, n1, q1, a1, b1, p1, h1⟩ : ∃ (l : List Int) (c : Nat) (st' : Store), evS (callN prog wf (k + 20)) wf u1 [some w0, x1, some (.cell n), some (.int ((b + 1 : Nat) : Int)), some (.int ((m + 1 : Nat) : Int)), some (dueV r), x6, some (.int again), some (.cell c0), x9, x10, x11, x12, x13] st0 = .ok (.nx [some w0, x1, some (.cell n), some (.int ((b + 1 : Nat) : Int)), some (.int ((m + 1 : Nat) : Int)), some (dueV r), x6, some (.int again), some (.cell c), x9, x10, x11, x12, x13]) st' ∧ st'[c]? = some (.lst (l.map .int)) ∧ c ≠ n ∧ c ≠ q ∧ 1 ≤ l.length ∧ l.length ≤ 8 ∧ (∀ p ∈ l, 0 ≤ p ∧ p < ((b + 1 : Nat) : Int)) ∧ Strm wf st' n q (B + 1) := by
    by_cases ha : again < 3
    · cases r with
      | none => exact ⟨l0, c0, st0, u1_no (.inl rfl), g0, n0, q0, a0, b0, p0, h0.less (by omega)⟩
      | some rw => exact u1_yes ha hb hm (hr rw rfl).1 (hr rw rfl).2 h0
    · exact ⟨l0, c0, st0, u1_no (.inr (by omega)), g0, n0, q0, a0, b0, p0, h0.less (by omega)⟩
  obtain ⟨w, st2, e2, hw, g2, h2⟩ := u2_ok (wf := wf) (k := k) (w0 := w0) (x1 := x1) (x4 := some (.int ((m + 1 : Nat) : Int))) (x5 := some (dueV r)) (x6 := x6) (x7 := some (.int again)) (x9 := x9) (x10 := x10) (x11 := x11) (x12 := x12) (x13 := x13) hb g1 n1 q1 a1 b1 h1
  have p31 : ∀ p ∈ l, 0 ≤ p ∧ p < 31 := fun p hp => by have := p1 p hp; omega
  obtain ⟨s, hs⟩ := repr_some hw a1 b1 p31
  have e3 := u3_ok (wf := wf) (k := k) (st := st2) (w0 := w0) (x1 := x1) (x2 := some (.cell n)) (x4 := some (.int ((m + 1 : Nat) : Int))) (x5 := some (dueV r)) (x6 := x6) (x7 := some (.int again)) (x8 := some (.cell c)) (x10 := some (fV ((b + 1 : Nat) : Int) l)) (x11 := x11) (x12 := x12) (x13 := x13) hb hw a1 b1 p1 (hs st2)
  have g3 : (st2 ++ [Cell.lst [fV ((b + 1 : Nat) : Int) l]])[c]? = some (.lst (l.map .int)) := by rw [get_app (lt_of_get g2)]; exact g2
  have e4 := u4_ok (wf := wf) (k := k) (w0 := w0) (x1 := x1) (x2 := some (.cell n)) (x4 := some (.int ((m + 1 : Nat) : Int))) (x5 := some (dueV r)) (x6 := x6) (x7 := some (.int again)) (x9 := some w) (x10 := some (fV ((b + 1 : Nat) : Int) l)) (x11 := some (.str s)) (x13 := x13) hb g3 get_last a1 b1 p1
  rw [set_last] at e4
  have e5 := u5_ok (wf := wf) (k := k) (w0 := w0) (x1 := x1) (x2 := some (.cell n)) (x3 := some (.int ((b + 1 : Nat) : Int))) (x4 := some (.int ((m + 1 : Nat) : Int))) (x5 := some (dueV r)) (x6 := x6) (x7 := some (.int again)) (x8 := some (.cell c)) (x13 := x13) (g := st2.length) (b := ((b + 1 : Nat) : Int)) (l := l) get_last (hs _)
  exact ⟨_, _, _, _, _, _, (seq_nx e0).trans ((seq_nx e1).trans ((seq_nx e2).trans ((seq_nx e3).trans ((seq_nx e4).trans ((seq_nx e5).trans seq_nil))))), h2.app _⟩
end
end Lk76
namespace Lk76
open PySem MP
section
variable {wf k : Nat}
/-- the names as they stand through the loops -/
def Frm (w0 : W) (sl : Slots) : Prop := ∃ x1 x2 x3 x4 x5 x6 x7 x8 x9 x10 x11 x12 x13 : Option W, sl = [some w0, x1, x2, x3, x4, x5, x6, x7, x8, x9, x10, x11, x12, x13]
def FrmI (w0 : W) (n b m : Nat) (r : Option (List Nat)) (sl : Slots) : Prop := ∃ x1 x2 x3 x4 x5 x6 x7 x8 x9 x10 x11 x12 x13 : Option W, sl = [some w0, x1, some (.cell n), some (.int ((b + 1 : Nat) : Int)), some (.int ((m + 1 : Nat) : Int)), some (dueV r), x6, x7, x8, x9, x10, x11, x12, x13]
theorem t6_ok {st : Store} {n q b m : Nat} {w0 : W} {r : Option (List Nat)} {sl : Slots} (hs : FrmI w0 n b m r sl) (hb : b < 30) (hm : m < 8) (hr : ∀ rw, r = some rw → rw.length = m + 1 ∧ ∀ p ∈ rw, p < b + 1) (h : Strm wf st n q 60) : ∃ sl' st', evS (callN prog wf (k + 20)) wf t6 sl st = .ok (.nx sl') st' ∧ FrmI w0 n b m r sl' := by
  obtain ⟨sl', st', e, h1, h2⟩ := for_inv (src := .rng 0 1 5) (g := asgT (callN prog wf (k + 20)) (.name 7)) (b := evSs (callN prog wf (k + 20)) wf uB)
    (fun i sl st' => FrmI w0 n b m r sl ∧ Strm wf st' n q (12 * (5 - i)))
    (fun i sl st' hi ⟨⟨x1, x2, x3, x4, x5, x6, x7, x8, x9, x10, x11, x12, x13, hsl⟩, hst⟩ => by
      have hi : i < 5 := hi
      subst hsl
      have hst' : Strm wf st' n q (12 * (5 - (i + 1)) + 12) := by
        rw [show 12 * (5 - (i + 1)) + 12 = 12 * (5 - i) by omega]; exact hst
      obtain ⟨y8, y9, y10, y11, y12, st2, e2, h2⟩ := uB_ok (wf := wf) (k := k) (w0 := w0) (x1 := x1) (x6 := x6) (again := 0 + (i : Nat) * 1) (x8 := x8) (x9 := x9) (x10 := x10) (x11 := x11) (x12 := x12) (x13 := x13) hb hm hr hst'
      exact ⟨.int (0 + (i : Nat) * 1), _, st', _, st2, by simp only [Src.at, if_pos hi], rfl, e2, ⟨_, none, none, none, none, _, _, _, _, _, _, _, _, rfl⟩, h2⟩)
    (fun sl st' _ => rfl) 5 0 sl st rfl ⟨hs, h⟩
  exact ⟨sl', st', forS (evIt_rng (w := .int 5) rfl (rg1 (n := 5) (by decide))) e, h1⟩
theorem tB_ok {st : Store} {is : List Int} {turn : Int} {sl : Slots} (hf : ∃ x1 x2 x3 x4 x5 x6 x7 x8 x9 x10 x11 x12 x13 : Option W, sl = [some (.scr is), some (.int turn), x2, x3, x4, x5, x6, x7, x8, x9, x10, x11, x12, x13]) (hl : is.length ≤ 63) (hw : 2 ^ 62 ≤ wf) : ∃ sl' st', evSs (callN prog wf (k + 20)) wf tB sl st = .ok (.nx sl') st' ∧ Frm (.scr is) sl' := by
  obtain ⟨x1, x2, x3, x4, x5, x6, x7, x8, x9, x10, x11, x12, x13, rfl⟩ := hf
  obtain ⟨e0, h0⟩ := t0_ok (wf := wf) (k := k) (st := st) (x2 := x2) (x3 := x3) (x4 := x4) (x5 := x5) (x6 := x6) (x7 := x7) (x8 := x8) (x9 := x9) (x10 := x10) (x11 := x11) (x12 := x12) (x13 := x13) (is := is) (turn := turn) hl hw
  generalize st ++ [Cell.lst ((is ++ [turn]).map .int), .lst [.cell st.length, .int 0, .int 0, .int 19]] = st0 at *
  obtain ⟨b, m, st1, e1, hb, hm, h1⟩ := t1_ok (wf := wf) (k := k) (w0 := .scr is) (x1 := some (.int turn)) (x3 := x3) (x4 := x4) (x5 := x5) (x6 := x6) (x7 := x7) (x8 := x8) (x9 := x9) (x10 := x10) (x11 := x11) (x12 := x12) (x13 := x13) (B := 60) (h0.less (by decide))
  have hok := okAll hb hm
  obtain ⟨r, hF⟩ := okAt_is hok
  have hSL : simL (b + 1) (m + 1) 22000 [[]] = some r ∧ (∀ rw, r = some rw → (rw.length = m + 1 ∧ ∀ p ∈ rw, p < b + 1) ∧ fault ((b + 1 : Nat) : Int) (iv rw) = none) := by
    cases r with
    | none => exact ⟨okAt_none hok hF, fun rw z => by cases z⟩
    | some rw =>
      obtain ⟨a1, a2, a3, a4⟩ := okAt_some hok hF
      exact ⟨a1, fun rw' z => by cases z; exact ⟨⟨a2, a3⟩, a4⟩⟩
  obtain ⟨hL, hr⟩ := hSL
  obtain ⟨l, e2⟩ := t2_ok (wf := wf) (k := k) (st := st1) (w0 := .scr is) (x1 := some (.int turn)) (x2 := some (.cell (st.length + 1))) (x5 := x5) (x6 := x6) (x7 := x7) (x8 := x8) (x9 := x9) (x10 := x10) (x11 := x11) (x12 := x12) (x13 := x13) hw hb hm hL
  have h2 := h1.app l
  generalize st1 ++ l = st2 at *
  obtain ⟨n2, q2⟩ := h2.lt
  have e3 := t3_ok (wf := wf) (k := k) (st := st2) (w0 := .scr is) (x1 := some (.int turn)) (x2 := some (.cell (st.length + 1))) (x5 := some (dueV r)) (x6 := x6) (x7 := x7) (x8 := x8) (x9 := x9) (x10 := x10) (x11 := x11) (x12 := x12) (x13 := x13) hw hb hm hF
  have g1 : (st2 ++ [fairC r, fairC r, .lst [fairV r st2.length, fairV r (st2.length + 1)]])[st2.length]? = some (fairC r) := by rw [List.getElem?_append_right (by omega)]; simp
  have g2 : (st2 ++ [fairC r, fairC r, .lst [fairV r st2.length, fairV r (st2.length + 1)]])[st2.length + 1]? = some (fairC r) := by rw [List.getElem?_append_right (by omega)]; simp
  have g3 : (st2 ++ [fairC r, fairC r, .lst [fairV r st2.length, fairV r (st2.length + 1)]])[st2.length + 2]? = some (.lst [fairV r st2.length, fairV r (st2.length + 1)]) := by rw [List.getElem?_append_right (by omega)]; simp
  have e4 := t4_ok (wf := wf) (k := k) (w0 := .scr is) (x1 := some (.int turn)) (x2 := some (.cell (st.length + 1))) (x3 := some (.int ((b + 1 : Nat) : Int))) (x4 := some (.int ((m + 1 : Nat) : Int))) (x7 := x7) (x8 := x8) (x9 := x9) (x10 := x10) (x11 := x11) (x12 := x12) (x13 := x13) (r := r) (fun rw z => by have := (hr rw z).1.1; omega) g3 g1 g2
  have h3 := h2.app [fairC r, fairC r, .lst [fairV r st2.length, fairV r (st2.length + 1)]]
  obtain ⟨st4, e5, h5⟩ : ∃ st4, evS (callN prog wf (k + 20)) wf t5 [some (.scr is), some (.int turn), some (.cell (st.length + 1)), some (.int ((b + 1 : Nat) : Int)), some (.int ((m + 1 : Nat) : Int)), some (dueV r), some (.cell (st2.length + 2)), x7, x8, x9, x10, x11, x12, x13] (st2 ++ [fairC r, fairC r, .lst [fairV r st2.length, fairV r (st2.length + 1)]]) = .ok (.nx [some (.scr is), some (.int turn), some (.cell (st.length + 1)), some (.int ((b + 1 : Nat) : Int)), some (.int ((m + 1 : Nat) : Int)), some (dueV r), some (.cell (st2.length + 2)), x7, x8, x9, x10, x11, x12, x13]) st4 ∧ Strm wf st4 (st.length + 1) st.length 60 := by
    cases r with
    | none => exact ⟨_, t5_none, h3⟩
    | some rw =>
      obtain ⟨⟨a1, a2⟩, a3⟩ := hr rw rfl
      obtain ⟨st4, e5, k5⟩ := t5_some (wf := wf) (k := k) (w0 := .scr is) (x1 := some (.int turn)) (x2 := some (.cell (st.length + 1))) (x7 := x7) (x8 := x8) (x9 := x9) (x10 := x10) (x11 := x11) (x12 := x12) (x13 := x13) (c := st2.length + 2) (a := st2.length) hw hb hm hF a1 a2 a3 (by omega) (by simp) g3 g1 g2
      exact ⟨st4, e5, h3.at (k5 _ n2) (k5 _ q2)⟩
  obtain ⟨sl6, st6, e6, x1, x2, x3, x4, x5, x6, x7, x8, x9, x10, x11, x12, x13, rfl⟩ := t6_ok (wf := wf) (k := k) (w0 := .scr is) ⟨_, none, none, none, none, _, _, _, _, _, _, _, _, rfl⟩ hb hm (fun rw z => (hr rw z).1) h5
  exact ⟨_, st6, (seq_nx e0).trans ((seq_nx e1).trans ((seq_nx e2).trans ((seq_nx e3).trans ((seq_nx e4).trans ((seq_nx e5).trans ((seq_nx e6).trans seq_nil)))))), ⟨_, _, _, _, _, _, _, _, _, _, _, _, _, rfl⟩⟩
theorem law_true (is : List Int) (hl : is.length ≤ 63) (hw : 2 ^ 62 ≤ wf) : ∃ st, callN prog wf (k + 21) 19 [.scr is] [] = .ok (.bl true) st := by
  obtain ⟨sl', st', e, h1⟩ := for_inv (src := .rng 0 1 5) (g := asgT (callN prog wf (k + 20)) (.name 1)) (b := evSs (callN prog wf (k + 20)) wf tB)
    (fun i sl st' => Frm (.scr is) sl)
    (fun i sl st' hi ⟨x1, x2, x3, x4, x5, x6, x7, x8, x9, x10, x11, x12, x13, hsl⟩ => by
      have hi : i < 5 := hi
      subst hsl
      obtain ⟨sl2, st2, e2, h2⟩ := tB_ok (wf := wf) (k := k) (st := st') (turn := 0 + (i : Nat) * 1) ⟨none, x2, x3, x4, x5, x6, x7, x8, x9, x10, x11, x12, x13, rfl⟩ hl hw
      exact ⟨.int (0 + (i : Nat) * 1), _, st', _, st2, by simp only [Src.at, if_pos hi], rfl, e2, h2⟩)
    (fun sl st' _ => rfl) 5 0 (startW d_law.N.length [.scr is]) [] rfl ⟨_, _, _, _, _, _, _, _, _, _, _, _, _, rfl⟩
  refine ⟨st', call_rt (d := d_law) rfl rfl ?_⟩
  rw [law_body]
  exact (seq_nx (forS (evIt_rng (w := .int 5) rfl (rg1 (n := 5) (by decide))) e)).trans (seq_rt (ret_ok rfl))
end
end Lk76
namespace Lk76
open PySem PySem.Spec PyProof.Rows L2 MP
theorem run (w : World) : HandSHeadRun.RunEq R (PySem.W.view R.prog [28]) hk ob 3000 names w := by
  intro os
  kernel_rfl
end Lk76
open PySem PySem.W PySem.Calls PyProof.Rows in
theorem PySem.Challenge.cw_sidestaken_k76_whole_points_fair_from_th_holds : PySem.Challenge.rw_sidestaken_k76_whole_points_fair_from_th.Holds := by
  w_on; o_law
  refine HandSHeadRun.head_any (r := OpenLaw.row PySem.Challenge.rw_sidestaken_k76_whole_points_fair_from_th) (q := view (OpenLaw.row PySem.Challenge.rw_sidestaken_k76_whole_points_fair_from_th).prog [28]) (H := Lk76.hk) (ob := Lk76.ob) (M := 3000) (loose := Lk76.names) (d := HandSHeadRun.topDef (OpenLaw.row PySem.Challenge.rw_sidestaken_k76_whole_points_fair_from_th).prog 28) (kwd := []) Lk76.ob_eq
    (by kernel_rfl) (fun s => by kernel_rfl) Lk76.run (by kernel_rfl) (by kernel_rfl) (by kernel_rfl) (by rfl) (by first | assumption | decide +kernel) (by decide +kernel) ⟨rfl, rfl, rfl, rfl, rfl, by decide +kernel⟩ ?hw ?hc
  case hw => w_witness2
  case hc =>
    exact MP.walk_mp (l := PySem.Challenge.rw_sidestaken_k76_whole_points_fair_from_th) (n := 63) (k := 21) (wf := 2 ^ 62) Lk76.T Lk76.ds (dl := Lk76.d_law) rfl (by decide) (by kernel_rfl) ⟨rfl, by decide, by decide⟩ Lk76.okD Lk76.okK (List.mem_iff_getElem?.mpr ⟨19, rfl⟩) (by kernel_rfl) rfl (fun is hl => Lk76.law_true is hl (by decide))
