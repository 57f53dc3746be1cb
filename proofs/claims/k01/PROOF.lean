import PyProof.Rows.All
import PySem.Challenge.RW_mendrules_k01_terms
import HandS.ForMost
import HandS.ForExc
import HandS.Deep
import HandS.IsInst
import HandS.SetKeys
import HandS.Style
import HandS.TryOnly
import HandS.ExcOwn
import HandS.StrMore
import HandS.SortInts
import HandS.HeadWalk
import HandS.HeadHook1
import HandS.Head2
import HandS.HeadEnd
import HandS.Conv
import HandS.Codes
import HandS.Flow
import HandS.NoneIn
import HandS.SortKw
import HandS.RaiseOp
import HandS.Zip
import HandS.Small
import HandS.TupMul
import HandS.TupAny
import HandS.HeadHook2
set_option Elab.async false
set_option linter.all false
set_option maxRecDepth 100000
/-! MiA: plain values, a small syntax with slots, its evaluator. -/
namespace Mi
open PySem

/-! ### values -/
inductive T where
  | non | bl (b : Bool) | int (i : Int) | str (s : List Char) | tup (xs : List T) | lst (xs : List T) | scr (ns : List Int) | ref (n : Nat)

mutual
def T.beq : T → T → Bool
  | .non, .non => true
  | .bl a, .bl b => a == b
  | .int a, .int b => a == b
  | .str a, .str b => a == b
  | .tup a, .tup b => T.beqs a b
  | .lst a, .lst b => T.beqs a b
  | .scr a, .scr b => a == b
  | .ref a, .ref b => a == b
  | _, _ => false
def T.beqs : List T → List T → Bool
  | [], [] => true
  | x :: xs, y :: ys => T.beq x y && T.beqs xs ys
  | _, _ => false
end
mutual
theorem T.beq_iff : ∀ a b : T, T.beq a b = true ↔ a = b
  | .non, b => by cases b <;> simp [T.beq]
  | .bl a, b => by cases b <;> simp [T.beq]
  | .int a, b => by cases b <;> simp [T.beq]
  | .str a, b => by cases b <;> simp [T.beq]
  | .scr a, b => by cases b <;> simp [T.beq]
  | .ref a, b => by cases b <;> simp [T.beq]
  | .tup xs, b => by
    cases b with
    | tup ys => simp only [T.beq, T.beqs_iff xs ys, T.tup.injEq]
    | _ => simp [T.beq]
  | .lst xs, b => by
    cases b with
    | lst ys => simp only [T.beq, T.beqs_iff xs ys, T.lst.injEq]
    | _ => simp [T.beq]
theorem T.beqs_iff : ∀ a b : List T, T.beqs a b = true ↔ a = b
  | [], b => by cases b <;> simp [T.beqs]
  | x :: xs, b => by
    cases b with
    | nil => simp [T.beqs]
    | cons y ys => simp only [T.beqs, Bool.and_eq_true, T.beq_iff x y, T.beqs_iff xs ys, List.cons.injEq]
end
instance : DecidableEq T := fun a b => decidable_of_iff _ (T.beq_iff a b)

/-- what the store holds -/
inductive MO where
  | lst (xs : List T) | dct (kvs : List (T × T))
  deriving DecidableEq

abbrev Store := List MO
inductive Res (α : Type) where
  | ok (a : α) (S : Store) | err (c : Nat) (S : Store) | fail

def bnd {α β : Type} (r : Res α) (f : α → Store → Res β) : Res β :=
  match r with
  | .ok a S => f a S
  | .err c S => .err c S
  | .fail => .fail
@[simp] theorem bnd_ok {α β : Type} (a : α) (S : Store) (f : α → Store → Res β) : bnd (.ok a S) f = f a S := rfl
@[simp] theorem bnd_err {α β : Type} (c : Nat) (S : Store) (f : α → Store → Res β) : bnd (.err c S : Res α) f = .err c S := rfl
@[simp] theorem bnd_fail {α β : Type} (f : α → Store → Res β) : bnd (.fail : Res α) f = .fail := rfl

def line : Nat := 16777216

/-! ### syntax -/
inductive MG where
  | name (i : Nat) | tup (gs : List MG)
inductive BOp where | add | sub | mul | mod | fdiv
  deriving DecidableEq
inductive COp where | eq | ne | lt | le | gt | ge | in_ | nin | is_ | isn
  deriving DecidableEq
inductive TY where | str | tup | int | bool | intStr
  deriving DecidableEq
inductive BI where | len | all | any | sum | tuple | list | min2 | max2 | maxL | maxD | int | sorted | lenSet | sortSet | dict
  deriving DecidableEq
inductive MT where | append | extend | get | setdefault | count | index | join | split | upper | pop
  deriving DecidableEq

inductive ME where
  | var (i : Nat) | int (i : Int) | str (s : List Char) | bl (b : Bool) | non | glob (g : Nat)
  | tup (es : List ME) | lst (heap : Bool) (es : List ME) | dict (ks : List (List Char)) (vs : List ME)
  | bin (heap : Bool) (op : BOp) (a b : ME) | neg (a : ME) | not (a : ME) | and_ (a b : ME) | or_ (a b : ME)
  | cmp (op : COp) (a b : ME) | chain (op1 op2 : COp) (a b c : ME) | ife (c a b : ME)
  | call (f : Nat) (es : List ME) | bi (b : BI) (es : List ME) | isi (t : TY) (a : ME) | mt (m : MT) (o : ME) (es : List ME)
  | sub (a i : ME) | slice (a : ME) (lo hi : Option ME) | rev (a : ME)
  | comp (heap : Bool) (own : List Nat) (g : MG) (it : ME) (cond : Option ME) (elt : ME)
  | rangeI (es : List ME) | enumI (e : ME) | zipI (a b : ME)

inductive MS where
  | asg (g : MG) (e : ME) | par (is : List Nat) (es : List ME) | expr (e : ME) | ret (e : ME) | retN
  | if_ (c : ME) (a b : List MS) | for_ (g : MG) (it : ME) (body : List MS) | while_ (c : ME) (body : List MS)
  | brk | cont | pass | raise_ (c : Nat) | setIdx (o i e : ME) | tryWord (e : ME)

/-! ### what operators do -/
abbrev Env := List (Option T)

/-- a list of the store as a plain one -/
def view (S : Store) (t : T) : T :=
  match t with
  | .ref n => (match S[n]? with | some (.lst xs) => .lst xs | _ => .ref n)
  | t => t

mutual
/-- no address in it -/
def T.data : T → Bool
  | .non | .bl _ | .int _ | .str _ => true
  | .tup xs | .lst xs => T.datas xs
  | .scr _ | .ref _ => false
def T.datas : List T → Bool
  | [] => true
  | x :: xs => T.data x && T.datas xs
end
mutual
def T.depth : T → Nat
  | .tup xs | .lst xs => T.depths xs + 1
  | _ => 0
def T.depths : List T → Nat
  | [] => 0
  | x :: xs => max (T.depth x) (T.depths xs)
end
mutual
/-- == -/
def eqT : T → T → Bool
  | .non, .non => true
  | .bl a, .bl b => a == b
  | .bl a, .int j => (if a then 1 else 0) == j
  | .int i, .bl b => i == (if b then 1 else 0)
  | .int i, .int j => i == j
  | .str s, .str t => s == t
  | .lst xs, .lst ys => eqTs xs ys
  | .tup xs, .tup ys => eqTs xs ys
  | _, _ => false
def eqTs : List T → List T → Bool
  | [], [] => true
  | x :: xs, y :: ys => eqT x y && eqTs xs ys
  | [], _ :: _ => false
  | _ :: _, [] => false
end

def deepest : Nat := 800
def eqOk (a b : T) : Bool := a.data && b.data && decide (min a.depth b.depth ≤ deepest)
def inOk (a : T) (xs : List T) : Bool := a.data && T.datas xs && decide (min (T.depths xs) a.depth ≤ deepest)

def codes (s : List Char) : List Nat := s.map Char.toNat
def ltS (s t : List Char) : Bool := decide (codes s < codes t)

/-- keys of dicts: ints and texts -/
def keyB : T → Bool
  | .int _ | .str _ => true
  | _ => false
def dget (kvs : List (T × T)) (k : T) : Option T := (kvs.find? fun p => decide (p.1 = k)).map (·.2)
def dput (kvs : List (T × T)) (k v : T) : List (T × T) :=
  if (kvs.any fun p => decide (p.1 = k)) = true then kvs.map (fun p => if p.1 = k then (p.1, v) else p) else kvs ++ [(k, v)]

def truthy (S : Store) (t : T) : Option Bool :=
  match t with
  | .non => some false
  | .bl b => some b
  | .int i => some (i != 0)
  | .str s => some (!s.isEmpty)
  | .tup xs => some (!xs.isEmpty)
  | .lst xs => some (!xs.isEmpty)
  | .scr _ => none
  | .ref n => (match S[n]? with | some (.lst xs) => some (!xs.isEmpty) | some (.dct kvs) => some (!kvs.isEmpty) | _ => none)

/-- a new list: one of the store, or one that stays as it is -/
def newList (heap : Bool) (xs : List T) (S : Store) : Res T := if heap then .ok (.ref S.length) (S ++ [.lst xs]) else .ok (.lst xs) S

def binOp (heap : Bool) (op : BOp) (a b : T) (S : Store) : Res T :=
  match op, view S a, view S b with
  | .add, .int i, .int j => .ok (.int (i + j)) S
  | .add, .str s, .str t => if s.length + t.length ≤ line then .ok (.str (s ++ t)) S else .fail
  | .add, .tup xs, .tup ys => if xs.length + ys.length ≤ line then .ok (.tup (xs ++ ys)) S else .fail
  | .add, .lst xs, .lst ys => if xs.length + ys.length ≤ line then newList heap (xs ++ ys) S else .fail
  | .sub, .int i, .int j => .ok (.int (i - j)) S
  | .mul, .int i, .int j => if i.natAbs < 2 ^ 64 ∨ j.natAbs < 2 ^ 64 then .ok (.int (i * j)) S else .fail
  | .mul, .lst xs, .int 2 => if xs.length ≤ 1000 then newList heap (xs ++ xs) S else .fail
  | .mul, .tup (x :: xs), .int 2 => if xs.length < 1000 then .ok (.tup (x :: xs ++ x :: xs)) S else .fail
  | .mul, .str s, .int 2 => if s.length ≤ 1000 then .ok (.str (s ++ s)) S else .fail
  | .mod, .int i, .int j => if 0 < j then .ok (.int (i % j)) S else .fail
  | .fdiv, .int i, .int j => if 0 < j ∧ j < 1073741824 then .ok (.int (i / j)) S else .fail
  | _, _, _ => .fail

def isIn (a b : T) (S : Store) : Option Bool :=
  match view S b with
  | .str t => (match a with | .str [c] => some (decide (c ∈ t)) | _ => none)
  | .tup xs => if inOk a xs then some (xs.any fun y => eqT y a) else none
  | .lst xs => if inOk a xs then some (xs.any fun y => eqT y a) else none
  | .ref n => (match S[n]? with | some (.dct kvs) => if keyB a then some (dget kvs a).isSome else none | _ => none)
  | _ => none

def cmpOp (op : COp) (a b : T) (S : Store) : Option Bool :=
  match op with
  | .eq => if eqOk (view S a) (view S b) then some (eqT (view S a) (view S b)) else none
  | .ne => if eqOk (view S a) (view S b) then some (!eqT (view S a) (view S b)) else none
  | .lt => (match a, b with | .int i, .int j => some (decide (i < j)) | .str s, .str t => some (ltS s t) | _, _ => none)
  | .le => (match a, b with | .int i, .int j => some (decide (i ≤ j)) | .str s, .str t => some (!ltS t s) | _, _ => none)
  | .gt => (match a, b with | .int i, .int j => some (decide (j < i)) | .str s, .str t => some (ltS t s) | _, _ => none)
  | .ge => (match a, b with | .int i, .int j => some (decide (j ≤ i)) | .str s, .str t => some (!ltS s t) | _, _ => none)
  | .in_ => isIn a b S
  | .nin => (isIn a b S).map (!·)
  | .is_ => (match a, b with | .bl x, .bl y => some (x == y) | a, .non => some (decide (a = .non)) | _, _ => none)
  | .isn => (match a, b with | .bl x, .bl y => some (!(x == y)) | a, .non => some (!decide (a = .non)) | _, _ => none)

def optR {α β : Type} (o : Option α) (f : α → β) (S : Store) : Res β :=
  match o with
  | some a => .ok (f a) S
  | none => .fail

def isTY (t : TY) (a : T) (S : Store) : Option Bool :=
  match a with
  | .ref n => (match S[n]? with | some _ => some false | none => none)
  | .scr _ => none
  | a => some (match t, a with
    | .str, .str _ => true
    | .tup, .tup _ => true
    | .int, .int _ => true
    | .int, .bl _ => true
    | .bool, .bl _ => true
    | .intStr, .int _ => true
    | .intStr, .bl _ => true
    | .intStr, .str _ => true
    | _, _ => false)

def item (a i : T) (S : Store) : Option T :=
  match view S a, i with
  | .tup xs, .int k => L2.atI xs k
  | .lst xs, .int k => L2.atI xs k
  | .scr ns, .int k => (L2.atI ns k).map T.int
  | .str s, .int k => (L2.atI s k).map fun c => .str [c]
  | .ref n, k => (match S[n]? with | some (.dct kvs) => if keyB k then dget kvs k else none | _ => none)
  | _, _ => none

def cut {α : Type} (xs : List α) (lo hi : Option Int) : List α := (xs.drop (HT.sIx xs.length 0 lo)).take (HT.sIx xs.length xs.length hi - HT.sIx xs.length 0 lo)
def sliceOf (a : T) (lo hi : Option Int) (S : Store) : Option T :=
  match view S a with
  | .tup xs => some (.tup (cut xs lo hi))
  | .lst xs => some (.lst (cut xs lo hi))
  | .str s => some (.str (cut s lo hi))
  | _ => none
def revOf (a : T) (S : Store) : Option T :=
  match view S a with
  | .tup xs => some (.tup xs.reverse)
  | .lst xs => some (.lst xs.reverse)
  | _ => none

def asBls : List T → Option (List Bool)
  | [] => some []
  | .bl b :: r => (asBls r).map (b :: ·)
  | _ :: _ => none
def asInts : List T → Option (List Int)
  | [] => some []
  | .int b :: r => (asInts r).map (b :: ·)
  | _ :: _ => none
def asStrs : List T → Option (List (List Char))
  | [] => some []
  | .str b :: r => (asStrs r).map (b :: ·)
  | _ :: _ => none
/-- insertion, by a strict order on texts -/
def insS (s : List Char) : List (List Char) → List (List Char)
  | [] => [s]
  | t :: r => if ltS t s then t :: insS s r else s :: t :: r
def sortS : List (List Char) → List (List Char)
  | [] => []
  | s :: r => insS s (sortS r)
def onceL {α : Type} [DecidableEq α] : List α → List α
  | [] => []
  | x :: r => if x ∈ onceL r then onceL r else x :: onceL r
def maxL : List Int → Option Int
  | [] => none
  | x :: r => some (r.foldl (fun m y => if m < y then y else m) x)
def pairsOf : List T → Option (List (T × T))
  | [] => some []
  | .tup [k, v] :: r => if keyB k then (pairsOf r).map ((k, v) :: ·) else none
  | _ :: _ => none
def dputs (acc : List (T × T)) (kvs : List (T × T)) : List (T × T) := kvs.foldl (fun d p => dput d p.1 p.2) acc

/-- the items of a tuple, a list -/
def seqOf (S : Store) (a : T) : Option (List T) :=
  match view S a with
  | .tup xs => some xs
  | .lst xs => some xs
  | _ => none
def lstOf (S : Store) (a : T) : Option (List T) :=
  match view S a with
  | .lst xs => some xs
  | _ => none

def biOp (b : BI) (vs : List T) (S : Store) : Res T :=
  match b, vs with
  | .len, [a] => (match view S a with
    | .tup xs => .ok (.int xs.length) S
    | .lst xs => .ok (.int xs.length) S
    | .str s => .ok (.int s.length) S
    | .scr ns => .ok (.int ns.length) S
    | _ => .fail)
  | .all, [a] => optR ((lstOf S a).bind asBls) (fun bs => .bl (bs.all id)) S
  | .any, [a] => optR ((lstOf S a).bind asBls) (fun bs => .bl (bs.any id)) S
  | .sum, [a] => optR ((lstOf S a).bind asInts) (fun bs => .int bs.sum) S
  | .tuple, [a] => optR (seqOf S a) T.tup S
  | .list, [a] => optR (seqOf S a) T.lst S
  | .min2, [.int i, .int j] => .ok (.int (if j < i then j else i)) S
  | .max2, [.int i, .int j] => .ok (.int (if j > i then j else i)) S
  | .maxL, [a] => optR (((lstOf S a).bind asInts).bind maxL) T.int S
  | .maxD, [a] => optR ((lstOf S a).bind asInts) (fun ns => .int ((maxL ns).getD 0)) S
  | .int, [.bl b] => .ok (.int (if b then 1 else 0)) S
  | .sorted, [a] => (match a with
    | .ref n => (match S[n]? with
      | some (.dct kvs) => optR ((asStrs (kvs.map (·.1))).bind fun ks => if ks.length < 64 then some ks else none) (fun ks => .lst ((sortS ks).map T.str)) S
      | some (.lst xs) => optR ((asStrs xs).bind fun ks => if ks.length < 64 then some ks else none) (fun ks => .lst ((sortS ks).map T.str)) S
      | none => .fail)
    | a => optR (((lstOf S a).bind asStrs).bind fun ks => if ks.length < 64 then some ks else none) (fun ks => .lst ((sortS ks).map T.str)) S)
  | .lenSet, [a] => optR ((seqOf S a).bind asStrs) (fun ks => .int (onceL ks).length) S
  | .sortSet, [a] => optR (((seqOf S a).bind asStrs).bind fun ks => if (onceL ks).length < 64 then some ks else none) (fun ks => .lst ((sortS (onceL ks)).map T.str)) S
  | .dict, [a] => (match (lstOf S a).bind pairsOf with
    | some kvs => .ok (.ref S.length) (S ++ [.dct (dputs [] kvs)])
    | none => .fail)
  | _, _ => .fail

def countT (xs : List T) (a : T) : Nat := (xs.filter fun y => eqT y a).length
def indexT : List T → T → Option Nat
  | [], _ => none
  | x :: r, a => if eqT x a then some 0 else (indexT r a).map (· + 1)
def joinS (sep : List Char) : List (List Char) → List Char
  | [] => []
  | [s] => s
  | s :: r => s ++ sep ++ joinS sep r
def upperC (c : Char) : Char := if 'a' ≤ c ∧ c ≤ 'z' then Char.ofNat (c.toNat - 32) else c

def mtOp (m : MT) (o : T) (vs : List T) (S : Store) : Res T :=
  match m, o, vs with
  | .append, .ref n, [v] => (match S[n]? with
    | some (.lst xs) => if xs.length < line then .ok .non (S.set n (.lst (xs ++ [v]))) else .fail
    | _ => .fail)
  | .extend, .ref n, [v] => (match S[n]?, lstOf S v with
    | some (.lst xs), some ys => if xs.length + ys.length ≤ line then .ok .non (S.set n (.lst (xs ++ ys))) else .fail
    | _, _ => .fail)
  | .get, .ref n, [k, d] => (match S[n]? with
    | some (.dct kvs) => if keyB k then .ok ((dget kvs k).getD d) S else .fail
    | _ => .fail)
  | .setdefault, .ref n, [k, d] => (match S[n]? with
    | some (.dct kvs) => if keyB k ∧ kvs.length < line then (match dget kvs k with | some v => .ok v S | none => .ok d (S.set n (.dct (dput kvs k d)))) else .fail
    | _ => .fail)
  | .count, o, [v] => (match lstOf S o with
    | some xs => if inOk v xs then .ok (.int (countT xs v)) S else .fail
    | _ => .fail)
  | .index, o, [v] => (match lstOf S o with
    | some xs => if inOk v xs then optR (indexT xs v) (fun n => .int n) S else .fail
    | _ => .fail)
  | .join, .str sep, [v] => (match (lstOf S v).bind asStrs with
    | some ss => if (ss.map List.length).sum + ss.length * sep.length ≤ line then .ok (.str (joinS sep ss)) S else .fail
    | none => .fail)
  | .upper, .str s, [] => if s.length ≤ 1000 ∧ s.all (fun c => decide (c.toNat < 128)) then .ok (.str (s.map upperC)) S else .fail
  | _, _, _ => .fail

/-- what a method's object must be, ahead of the arguments -/
def mtPre (m : MT) (o : T) (S : Store) : Bool :=
  match m with
  | .append | .extend | .pop | .count | .index => (lstOf S o).isSome
  | .get | .setdefault => (match o with | .ref n => (match S[n]? with | some (.dct _) => true | _ => false) | _ => false)
  | .join | .split | .upper => (match o with | .str _ => true | _ => false)

/-- what a for walks: the items, the list of the store that they are read from -/
def itemsOf (S : Store) (v : T) : Option (List T × Option Nat) :=
  match v with
  | .tup xs => some (xs, none)
  | .lst xs => some (xs, none)
  | .str s => some (s.map fun c => .str [c], none)
  | .scr ns => some (ns.map T.int, none)
  | .ref n => (match S[n]? with | some (.lst xs) => some (xs, some n) | _ => none)
  | _ => none
def still (r : Option Nat) (xs : List T) (S : Store) : Bool :=
  match r with
  | none => true
  | some n => decide (S[n]? = some (.lst xs))
def rangeL (lo : Int) (n : Nat) (c : Int) : List T := (List.range n).map fun i => .int (lo + (i : Nat) * c)
def rangeOf : List T → Option T
  | [.int j] => if -(line : Int) ≤ j ∧ j ≤ line then some (.lst (rangeL 0 j.toNat 1)) else none
  | [.int i, .int j] => if 0 ≤ i ∧ i ≤ line ∧ -(line : Int) ≤ j ∧ j ≤ line then some (.lst (rangeL i (j - i).toNat 1)) else none
  | [.int i, .int j, .int c] => if -(line : Int) ≤ i ∧ i ≤ line ∧ -(line : Int) ≤ j ∧ j ≤ line ∧ c ≠ 0 ∧ -(line : Int) ≤ c ∧ c ≤ line then
      some (.lst (rangeL i (if 0 < c then ((j - i + c - 1) / c).toNat else ((i - j - c - 1) / (-c)).toNat) c)) else none
  | _ => none
def enumFrom (k : Nat) : List T → List T
  | [] => []
  | x :: r => .tup [.int (k : Nat), x] :: enumFrom (k + 1) r
def plainSeq : T → Option (List T)
  | .tup xs => some xs
  | .lst xs => some xs
  | _ => none
def zipT : List T → List T → List T
  | x :: xs, y :: ys => .tup [x, y] :: zipT xs ys
  | _, _ => []

mutual
def MG.asg : MG → T → Env → Option Env
  | .name i, v, env => some (env.set i (some v))
  | .tup gs, .tup vs, env => MG.asgs gs vs env
  | .tup gs, .lst vs, env => MG.asgs gs vs env
  | .tup _, _, _ => none
def MG.asgs : List MG → List T → Env → Option Env
  | [], [], env => some env
  | g :: gs, v :: vs, env => (MG.asg g v env).bind fun env => MG.asgs gs vs env
  | _, _, _ => none
end

def wipe (env : Env) : List Nat → Env
  | [] => env
  | v :: vs => (wipe env vs).set v none

def compLoop (stp : T → Store → Res (Option T)) (ck : Store → Bool) : List T → Store → Res (List T)
  | [], S => if ck S then .ok [] S else .fail
  | x :: r, S => if ck S then (match stp x S with
    | .ok o S' => bnd (compLoop stp ck r S') fun vs S'' => .ok (match o with | some v => v :: vs | none => vs) S''
    | _ => .fail) else .fail

structure Cfg where
  cf : Nat → List T → Store → Res T
  gv : Nat → Option T
  fuel : Nat

mutual
def ev (c : Cfg) : ME → Env → Store → Res T
  | .var i, env, S => (match env[i]? with | some (some v) => .ok v S | _ => .fail)
  | .int i, _, S => .ok (.int i) S
  | .str s, _, S => .ok (.str s) S
  | .bl b, _, S => .ok (.bl b) S
  | .non, _, S => .ok .non S
  | .glob g, _, S => optR (c.gv g) id S
  | .tup es, env, S => bnd (evs c es env S) fun vs S => .ok (.tup vs) S
  | .lst heap es, env, S => bnd (evs c es env S) fun vs S => newList heap vs S
  | .dict ks vs, env, S => bnd (evs c vs env S) fun vs S => .ok (.ref S.length) (S ++ [.dct (dputs [] ((ks.map T.str).zip vs))])
  | .bin heap op a b, env, S => bnd (ev c a env S) fun x S => bnd (ev c b env S) fun y S => binOp heap op x y S
  | .neg a, env, S => bnd (ev c a env S) fun x S => (match x with | .int i => .ok (.int (-i)) S | _ => .fail)
  | .not a, env, S => bnd (ev c a env S) fun x S => optR (truthy S x) (fun b => .bl (!b)) S
  | .and_ a b, env, S => bnd (ev c a env S) fun x S => (match truthy S x with | some true => ev c b env S | some false => .ok x S | none => .fail)
  | .or_ a b, env, S => bnd (ev c a env S) fun x S => (match truthy S x with | some true => .ok x S | some false => ev c b env S | none => .fail)
  | .cmp op a b, env, S => bnd (ev c a env S) fun x S => bnd (ev c b env S) fun y S => optR (cmpOp op x y S) T.bl S
  | .chain op1 op2 a b d, env, S => bnd (ev c a env S) fun x S => bnd (ev c b env S) fun y S => (match cmpOp op1 x y S with
    | some true => bnd (ev c d env S) fun z S => optR (cmpOp op2 y z S) T.bl S
    | some false => .ok (.bl false) S
    | none => .fail)
  | .ife t a b, env, S => bnd (ev c t env S) fun x S => (match truthy S x with | some true => ev c a env S | some false => ev c b env S | none => .fail)
  | .call f es, env, S => bnd (evs c es env S) fun vs S => c.cf f vs S
  | .bi b es, env, S => bnd (evs c es env S) fun vs S => biOp b vs S
  | .isi t a, env, S => bnd (ev c a env S) fun x S => optR (isTY t x S) T.bl S
  | .mt m o es, env, S => bnd (ev c o env S) fun x S => if mtPre m x S then bnd (evs c es env S) fun vs S => mtOp m x vs S else .fail
  | .sub a i, env, S => bnd (ev c a env S) fun x S => bnd (ev c i env S) fun y S => optR (item x y S) id S
  | .slice a lo hi, env, S => bnd (ev c a env S) fun x S => bnd (evo c lo env S) fun l S => bnd (evo c hi env S) fun h S => optR (sliceOf x l h S) id S
  | .rev a, env, S => bnd (ev c a env S) fun x S => optR (revOf x S) id S
  | .comp heap own g it cond elt, env, S => bnd (ev c it env S) fun v S => (match itemsOf S v with
    | some (xs, r) => bnd (compLoop (fun x S => (match g.asg x (wipe env own) with
        | some env' => (match cond with
          | some t => bnd (ev c t env' S) fun b S => (match truthy S b with
            | some true => bnd (ev c elt env' S) fun y S => .ok (some y) S
            | some false => .ok none S
            | none => .fail)
          | none => bnd (ev c elt env' S) fun y S => .ok (some y) S)
        | none => .fail)) (still r xs) xs S) fun vs S => newList heap vs S
    | none => .fail)
  | .rangeI es, env, S => bnd (evs c es env S) fun vs S => optR (rangeOf vs) id S
  | .enumI e, env, S => bnd (ev c e env S) fun v S => optR (plainSeq v) (fun xs => .lst (enumFrom 0 xs)) S
  | .zipI a b, env, S => bnd (ev c a env S) fun x S => bnd (ev c b env S) fun y S => (match x, y with
    | .tup xs, .tup ys => .ok (.lst (zipT xs ys)) S
    | .lst xs, .lst ys => .ok (.lst (zipT xs ys)) S
    | _, _ => .fail)
def evs (c : Cfg) : List ME → Env → Store → Res (List T)
  | [], _, S => .ok [] S
  | e :: es, env, S => bnd (ev c e env S) fun v S => bnd (evs c es env S) fun vs S => .ok (v :: vs) S
def evo (c : Cfg) : Option ME → Env → Store → Res (Option Int)
  | none, _, S => .ok none S
  | some e, env, S => bnd (ev c e env S) fun v S => (match v with | .int i => .ok (some i) S | _ => .fail)
end

inductive Flow where
  | next | brk | cont | ret (v : T)

def forLoop (body : T → Env → Store → Res (Flow × Env)) (ck : Store → Bool) : List T → Env → Store → Res (Flow × Env)
  | [], env, S => if ck S then .ok (.next, env) S else .fail
  | x :: r, env, S => if ck S then bnd (body x env S) fun fe S => (match fe.1 with
    | .next | .cont => forLoop body ck r fe.2 S
    | .brk => .ok (.next, fe.2) S
    | .ret v => .ok (.ret v, fe.2) S) else .fail
def whileLoop (cond : Env → Store → Res Bool) (body : Env → Store → Res (Flow × Env)) : Nat → Env → Store → Res (Flow × Env)
  | 0, _, _ => .fail
  | n + 1, env, S => bnd (cond env S) fun b S => if b then bnd (body env S) fun fe S => (match fe.1 with
      | .next | .cont => whileLoop cond body n fe.2 S
      | .brk => .ok (.next, fe.2) S
      | .ret v => .ok (.ret v, fe.2) S) else .ok (.next, env) S

def setSlots (env : Env) : List Nat → List T → Env
  | i :: is, v :: vs => setSlots (env.set i (some v)) is vs
  | _, _ => env

/-- the word of an error's class -/
def wordOf : Nat → List Char
  | 1 => "no way".toList | 2 => "no hole".toList | 3 => "no rule".toList | 4 => "no finding".toList | 5 => "no line".toList
  | 6 => "no hush".toList | 7 => "no deed".toList | 8 => "bad book".toList | 9 => "no text".toList | _ => "wrong".toList

def evT (c : Cfg) (e : ME) (env : Env) (S : Store) : Res Bool := bnd (ev c e env S) fun x S => optR (truthy S x) id S

mutual
def exec (c : Cfg) : MS → Env → Store → Res (Flow × Env)
  | .asg g e, env, S => bnd (ev c e env S) fun v S => optR (g.asg v env) (fun env => (.next, env)) S
  | .par is es, env, S => bnd (evs c es env S) fun vs S => .ok (.next, setSlots env is vs) S
  | .expr e, env, S => bnd (ev c e env S) fun _ S => .ok (.next, env) S
  | .ret e, env, S => bnd (ev c e env S) fun v S => .ok (.ret v, env) S
  | .retN, env, S => .ok (.ret .non, env) S
  | .if_ t a b, env, S => bnd (evT c t env S) fun k S => if k then execs c a env S else execs c b env S
  | .for_ g it body, env, S => bnd (ev c it env S) fun v S => (match itemsOf S v with
    | some (xs, r) => forLoop (fun x env S => (match g.asg x env with | some env => execs c body env S | none => .fail)) (still r xs) xs env S
    | none => .fail)
  | .while_ t body, env, S => whileLoop (fun env S => evT c t env S) (fun env S => execs c body env S) c.fuel env S
  | .brk, env, S => .ok (.brk, env) S
  | .cont, env, S => .ok (.cont, env) S
  | .pass, env, S => .ok (.next, env) S
  | .raise_ k, _, S => .err k S
  | .setIdx o i e, env, S => bnd (ev c e env S) fun v S => bnd (ev c o env S) fun x S => bnd (ev c i env S) fun k S => (match x with
    | .ref n => (match S[n]?, k with
      | some (.dct kvs), k => if keyB k ∧ kvs.length < line then .ok (.next, env) (S.set n (.dct (dput kvs k v))) else .fail
      | some (.lst xs), .int i => (match L2.ixN xs.length i with | some j => .ok (.next, env) (S.set n (.lst (xs.set j v))) | none => .fail)
      | _, _ => .fail)
    | _ => .fail)
  | .tryWord e, env, S => (match ev c e env S with
    | .ok v S => .ok (.ret v, env) S
    | .err k S => .ok (.ret (.str (wordOf k)), env) S
    | .fail => .fail)
def execs (c : Cfg) : List MS → Env → Store → Res (Flow × Env)
  | [], env, S => .ok (.next, env) S
  | s :: r, env, S => bnd (exec c s env S) fun fe S => (match fe.1 with
    | .next => execs c r fe.2 S
    | fl => .ok (fl, fe.2) S)
end

/-! ### calls -/
structure FD where
  params : Nat
  slots : Nat
  body : List MS

/-- what a call hands back: a list of its own made plain -/
def freezeV (k : Nat) (S : Store) (t : T) : Option T :=
  match t with
  | .ref n => if n < k then some (.ref n) else (match S[n]? with | some (.lst xs) => if T.datas xs then some (.lst xs) else none | _ => none)
  | t => if t.data then some t else none
/-- behind a call: the callee's own lists are gone, where nothing leads to them -/
def retFix (S : Store) (v : T) (S1 : Store) : Res T :=
  if S1.length = S.length then .ok v S1
  else if S1.take S.length = S then (match freezeV S.length S1 v with | some v' => .ok v' S | none => .ok v S1)
  else .ok v S1
def errFix (S : Store) (c : Nat) (S1 : Store) : Res T :=
  if S1.take S.length = S then .err c S else .err c S1

abbrev Tab := Nat → Option FD
def startEnv (n : Nat) (args : List T) : Env := args.map some ++ List.replicate (n - args.length) none
def callN (G : Tab) (gv : Nat → Option T) (fuel : Nat) : Nat → Nat → List T → Store → Res T
  | 0, _, _, _ => .fail
  | d + 1, f, args, S => (match G f with
    | none => .fail
    | some fd => if args.length = fd.params then (match execs ⟨callN G gv fuel d, gv, fuel⟩ fd.body (startEnv fd.slots args) S with
        | .ok (.ret v, _) S1 => retFix S v S1
        | .ok (.next, _) S1 => retFix S .non S1
        | .ok _ _ => .fail
        | .err c S1 => errFix S c S1
        | .fail => .fail) else .fail)
end Mi
/-! MiB: a piece of the text is a piece of the small syntax (decided by the kernel). -/
namespace Mi
open PySem L2

/-- a text of plain signs -/
def toStr (s : List Char) : Str := ⟨(codes s).toArray⟩

structure Nm where
  f : Nat → Str
  has : Nat → Bool
  g : Nat → Str
  x : Nat → Str

structure Sc where
  N : List Str
  sc : Scope
  fn : Str → Bool
  nm : Nm

def visB (Z : Sc) (x : Str) : Bool := match Z.sc.names.lookup x with
  | some .local | some .cell | some .free => true
  | _ => false
def locB (Z : Sc) (x : Str) : Bool := match Z.sc.names.lookup x with
  | some .local => true
  | some .cell => Z.fn x
  | _ => false
def glbB (Z : Sc) (x : Str) : Bool := decide (Z.sc.names.lookup x = some .globalImplicit) && decide (x ≠ "__debug__") && decide (x ≠ "__name__")
def ixB (Z : Sc) (i : Nat) (x : Str) : Bool := decide (Z.N[i]? = some x)

/-- a comprehension's block -/
def Sc.blk (Z : Sc) (scope : Scope) : Sc := { Z with sc := relS scope Z.sc, fn := fun x => scope.names.lookup x == some .cell }

mutual
def eqG (Z : Sc) : MG → Expr → Bool
  | .name i, .Name x _ => ixB Z i x && locB Z x
  | .tup gs, .Tuple es _ _ => eqGs Z gs es
  | _, _ => false
def eqGs (Z : Sc) : List MG → List Expr → Bool
  | [], [] => true
  | g :: gs, e :: es => eqG Z g e && eqGs Z gs es
  | _, _ => false
end

mutual
/-- all its names are among these -/
def MG.inn (vs : List Nat) : MG → Bool
  | .name i => decide (i ∈ vs)
  | .tup gs => MG.inns vs gs
def MG.inns (vs : List Nat) : List MG → Bool
  | [] => true
  | g :: gs => MG.inn vs g && MG.inns vs gs
end

def opOf : BOp → Operator
  | .add => .Add | .sub => .Sub | .mul => .Mult | .mod => .Mod | .fdiv => .FloorDiv
def cmpOf : COp → CmpOp
  | .eq => .Eq | .ne => .NotEq | .lt => .Lt | .le => .LtE | .gt => .Gt | .ge => .GtE | .in_ => .In | .nin => .NotIn | .is_ => .Is | .isn => .IsNot
def isSet : Expr → Bool
  | .Set .. => true
  | _ => false
def isSlice : Expr → Bool
  | .Slice .. => true
  | _ => false
def isComp : Expr → Bool
  | .ListComp .. | .SetComp .. | .DictComp .. => true
  | _ => false
def isIter : ME → Bool
  | .rangeI _ | .enumI _ | .zipI _ _ => true
  | _ => false
def nameB (Z : Sc) (n : Str) : Expr → Bool
  | .Name x _ => decide (x = n) && glbB Z x
  | _ => false
/-- isinstance's second argument -/
def tyB (Z : Sc) : TY → Expr → Bool
  | .str, e => nameB Z "str" e
  | .tup, e => nameB Z "tuple" e
  | .int, e => nameB Z "int" e
  | .bool, e => nameB Z "bool" e
  | .intStr, .Tuple [a, b] _ _ => nameB Z "int" a && nameB Z "str" b
  | _, _ => false
def biName : BI → Option Str
  | .len => some "len" | .all => some "all" | .any => some "any" | .sum => some "sum" | .tuple => some "tuple" | .list => some "list" | .min2 => some "min" | .max2 => some "max" | .maxL => some "max"
  | .int => some "int" | .sorted => some "sorted" | .dict => some "dict" | _ => none
def mtName : MT → Str
  | .append => "append" | .extend => "extend" | .get => "get" | .setdefault => "setdefault" | .count => "count" | .index => "index" | .join => "join" | .split => "split" | .upper => "upper" | .pop => "pop"
def biArgs : BI → Nat
  | .min2 | .max2 => 2
  | _ => 1
def mtArgs : MT → Nat
  | .get | .setdefault => 2
  | .upper | .pop => 0
  | _ => 1

/-- the ones whose rules are shown -/
def biDone : BI → Bool
  | .len | .all | .any | .sum | .tuple | .list | .min2 | .max2 | .int => true
  | _ => false
def mtDone : MT → Bool
  | .append | .extend | .get | .setdefault | .upper => true
  | _ => false
def dispDone : Bool := false
def enumDone : Bool := false
def isTupE : Expr → Bool
  | .Tuple .. => true
  | _ => false
def ownB (Z : Sc) (own : List Nat) : List (Str × Nat) := own.map fun i => (Z.N.getD i Str.empty, i)
def keyEs : List (List Char) → List (Option Expr) → Bool
  | [], [] => true
  | s :: ss, some (.Constant (.str x) _ _) :: es => decide (x = toStr s) && decide (s.length ≤ 1000) && keyEs ss es
  | _, _ => false

mutual
def eqE : ME → Sc → Expr → Bool
  | .var i, Z, .Name x _ => ixB Z i x && visB Z x && decide (x ≠ "__debug__") && decide (x ≠ "__classdict__")
  | .int i, _, .Constant (.int j) _ _ => decide (i = j)
  | .str s, _, .Constant (.str x) _ _ => decide (x = toStr s) && decide (s.length ≤ 1000)
  | .bl b, _, .Constant (.bool c) _ _ => b == c
  | .non, _, .Constant .none _ _ => true
  | .glob g, Z, .Name x _ => decide (x = Z.nm.g g) && glbB Z x
  | .tup es, Z, .Tuple fs _ _ => eqEs es Z fs && decide (es.length ≤ 1000)
  | .lst _ es, Z, .List fs _ => eqEs es Z fs && decide (es.length ≤ 1000)
  | .dict ks vs, Z, .Dict ks' vs' _ => keyEs ks ks' && eqEs vs Z vs' && decide (ks.length = vs.length) && decide (ks.length ≤ 15) && dispDone
  | .bin _ op a b, Z, .BinOp a' op' b' _ => decide (op' = opOf op) && eqE a Z a' && eqE b Z b'
  | .neg a, Z, .UnaryOp .USub a' _ => eqE a Z a'
  | .not a, Z, .UnaryOp .Not a' _ => eqE a Z a'
  | .and_ a b, Z, .BoolOp .And (a' :: b' :: r) p => eqE a Z a' && (match r with | [] => eqE b Z b' | _ => eqE b Z (.BoolOp .And (b' :: r) p))
  | .or_ a b, Z, .BoolOp .Or (a' :: b' :: r) p => eqE a Z a' && (match r with | [] => eqE b Z b' | _ => eqE b Z (.BoolOp .Or (b' :: r) p))
  | .cmp op a b, Z, .Compare a' [op'] [b'] _ => decide (op' = cmpOf op) && eqE a Z a' && eqE b Z b' && !isSet b'
  | .chain op1 op2 a b d, Z, .Compare a' [op1', op2'] [b', d'] _ => decide (op1' = cmpOf op1) && decide (op2' = cmpOf op2) && eqE a Z a' && eqE b Z b' && eqE d Z d' && !isSet d'
  | .ife t a b, Z, .IfExp t' a' b' _ => eqE t Z t' && eqE a Z a' && eqE b Z b'
  | .call f es, Z, .Call (.Name x _) fs [] _ => decide (x = Z.nm.f f) && Z.nm.has f && glbB Z x && eqEs es Z fs && !fs.isEmpty
  | .bi b es, Z, .Call (.Name x _) fs kws _ => (match b, fs, kws with
    | .lenSet, [.Call (.Name y _) gs [] _], [] => biDone .lenSet && decide (x = "len") && decide (y = "set") && glbB Z x && glbB Z y && eqEs es Z gs && decide (gs.length = 1)
    | .sortSet, [.Call (.Name y _) gs [] _], [] => biDone .sortSet && decide (x = "sorted") && decide (y = "set") && glbB Z x && glbB Z y && eqEs es Z gs && decide (gs.length = 1)
    | .maxD, fs, [⟨some k, .Constant (.int 0) _ _, _⟩] => biDone .maxD && decide (x = "max") && decide (k = "default") && glbB Z x && eqEs es Z fs && decide (fs.length = 1)
    | b, fs, [] => decide (biName b = some x) && biDone b && glbB Z x && eqEs es Z fs && decide (fs.length = biArgs b)
    | _, _, _ => false)
  | .isi t a, Z, .Call (.Name x _) [a', t'] [] _ => decide (x = "isinstance") && glbB Z x && eqE a Z a' && tyB Z t t'
  | .mt m o es, Z, .Call (.Attribute o' n ap) fs [] cp => decide (n = mtName m) && mtDone m && (ap.endLine == cp.line) && eqE o Z o' && eqEs es Z fs && decide (fs.length = mtArgs m)
  | .sub a i, Z, .Subscript a' i' _ => eqE a Z a' && eqE i Z i' && !isSlice i'
  | .slice a lo hi, Z, .Subscript a' (.Slice lo' hi' none _) _ => eqE a Z a' && eqO lo Z lo' && eqO hi Z hi'
  | .rev a, Z, .Subscript a' (.Slice none none (some (.UnaryOp .USub (.Constant (.int 1) _ _) _)) _) _ => eqE a Z a'
  | .comp _ own g it cond elt, Z, .ListComp elt' gens scope _ => (match gens with
    | [⟨tg, it', ifs, 0⟩] => blkC Z.N Z.sc scope (ownB Z own) && (own.all fun i => decide (i < Z.N.length)) && eqG (Z.blk scope) g tg && g.inn own && (eqI it Z tg it' || eqE it Z it') && eqE elt (Z.blk scope) elt' &&
      (match cond, ifs with | none, [] => true | some c, [c'] => eqE c (Z.blk scope) c' | _, _ => false)
    | _ => false)
  | _, _, _ => false
def eqEs : List ME → Sc → List Expr → Bool
  | [], _, [] => true
  | m :: ms, Z, e :: es => eqE m Z e && eqEs ms Z es
  | _, _, _ => false
def eqO : Option ME → Sc → Option Expr → Bool
  | none, _, none => true
  | some m, Z, some e => eqE m Z e
  | _, _, _ => false
def eqI : ME → Sc → Expr → Expr → Bool
  | .rangeI es, Z, _, .Call (.Name x _) fs [] _ => decide (x = "range") && glbB Z x && eqEs es Z fs && decide (1 ≤ fs.length ∧ fs.length ≤ 2)
  | .enumI e, Z, tg, .Call (.Name x _) [f] [] _ => decide (x = "enumerate") && glbB Z x && eqE e Z f && isTupE tg && enumDone
  | .zipI a b, Z, tg, .Call (.Name x _) [f, g] [] _ => decide (x = "zip") && glbB Z x && eqE a Z f && eqE b Z g && isTupE tg
  | _, _, _, _ => false
end

/-! ### statements -/
/-- PySem.swappedStores, where it says something -/
def swpO (sc : Scope) (ts vs : List Expr) : Option (Option (List Str)) :=
  if (!(ts.length == 2 || ts.length == 3) || vs.length != ts.length) = true then some none
  else if (vs.any fun | .Starred .. => true | _ => false) = true then some none
  else
    let line := (ts.head?.map (·.pos.line)).getD 0
    let names := ts.filterMap fun
      | .Name id pos => if sc.names.lookup id == some .local && pos.line == line then some id else none
      | _ => none
    if (names.length != ts.length || names.eraseDups.length != names.length) = true then some none
    else if vs.all (foldedForSure 8) = true then some none
    else if vs.all (constantsAlone 8) = true then none
    else some (some names)
/-- PySem.swapsWith -/
def swB (sc : Scope) (v tg : Expr) : Bool :=
  match v, tg with
  | .ListComp _ _ s p, .Name t py => sc.names.lookup t == some .local && py.line == p.line && !(s.names.any fun (n, k) => n == t && (k == .local || k == .cell))
  | _, _ => false
def swpT (sc : Scope) (tg v : Expr) : Bool :=
  match tg, v with
  | .Tuple ts _ _, .Tuple vs _ _ => decide (swpO sc ts vs = some none)
  | _, _ => true
def parN (Z : Sc) : List Nat → List Expr → Bool
  | [], [] => true
  | i :: is, .Name x _ :: ts => ixB Z i x && decide (Z.sc.names.lookup x = some .local) && !(is.contains i) && parN Z is ts
  | _, _ => false
def nameOf : Expr → Str
  | .Name x _ => x
  | _ => Str.empty

mutual
def eqS : MS → Sc → Stmt → Bool
  | .asg g e, Z, .Assign [tg] v _ => eqG Z g tg && eqE e Z v && swpT Z.sc tg v
  | .par is es, Z, .Assign [.Tuple ts _ _] (.Tuple vs _ _) _ => parN Z is ts && eqEs es Z vs && decide (swpO Z.sc ts vs = some (some (ts.map nameOf))) && decide (ts.length = vs.length) && decide (ts.length = 2 ∨ ts.length = 3)
  | .expr e, Z, .Expr v _ => eqE e Z v && !isComp v
  | .ret e, Z, .Return (some v) _ => eqE e Z v
  | .retN, _, .Return none _ => true
  | .if_ c a b, Z, .If c' a' b' _ => eqE c Z c' && eqSs a Z a' && eqSs b Z b'
  | .for_ g it body, Z, .For tg it' body' [] _ => eqG Z g tg && (eqI it Z tg it' || eqE it Z it') && eqSs body Z body'
  | .while_ c body, Z, .While c' body' [] _ => eqE c Z c' && eqSs body Z body'
  | .brk, _, .Break _ => true
  | .cont, _, .Continue _ => true
  | .pass, _, .Pass _ => true
  | _, _, _ => false
def eqSs : List MS → Sc → List Stmt → Bool
  | [], _, [] => true
  | m :: ms, Z, s :: ss => eqS m Z s && eqSs ms Z ss
  | _, _, _ => false
end
end Mi
/-! MiC1: plain values in the abstract heap. -/
namespace Mi
open PySem L2

/-- where the store's objects stand; what no value may lead to -/
structure Be where
  l : List Addr
  r : List Addr
instance : Membership Addr Be := ⟨fun β a => a ∈ β.l ∨ a ∈ β.r⟩
theorem Be.notl {β : Be} {a : Addr} (h : a ∉ β) : a ∉ β.l := fun m => h (.inl m)
theorem Be.notr {β : Be} {a : Addr} (h : a ∉ β) : a ∉ β.r := fun m => h (.inr m)
theorem Be.not {β : Be} {a : Addr} (h : a ∉ β.l) (h' : a ∉ β.r) : a ∉ β := fun m => m.elim h h'
def Be.push (β : Be) (p : Addr) : Be := ⟨β.l ++ [p], β.r⟩
def Be.hold (β : Be) (p : Addr) : Be := ⟨β.l, p :: β.r⟩

def KL (K : PySem.W.Frag) (a : Addr) (xs : List V) : Prop :=
  ∃ (o : Obj) (its : Array Value) (n : Nat), K.lookup a = some o ∧ o.cls = .type "list" ∧ o.dict = none ∧ o.data = .seq its n ∧ its.size ≤ sizeLine ∧ Vals xs its.toList
mutual
def Rep (K : PySem.W.Frag) (β : Be) (H : Hp) : T → V → Prop
  | .non, v => v = .non
  | .bl b, v => v = .bl b
  | .int i, v => v = .int i
  | .str s, v => v = .str (toStr s) ∧ s.length ≤ line
  | .tup ts, v => ts.length ≤ line ∧ ∃ a vs, v = .ref a ∧ H a = some (.tup vs) ∧ a ∉ β ∧ Reps K β H ts vs
  | .lst ts, v => ts.length ≤ line ∧ ∃ a vs, v = .ref a ∧ H a = some (.lst vs) ∧ a ∉ β ∧ Reps K β H ts vs
  | .scr ns, v => ns.length ≤ line ∧ ∃ a, v = .ref a ∧ ((Rd H a (.lst (ns.map V.int)) ∧ a ∉ β) ∨ KL K a (ns.map V.int))
  | .ref n, v => ∃ a, v = .ref a ∧ β.l[n]? = some a
def Reps (K : PySem.W.Frag) (β : Be) (H : Hp) : List T → List V → Prop
  | [], vs => vs = []
  | t :: ts, vs => ∃ v r, vs = v :: r ∧ Rep K β H t v ∧ Reps K β H ts r
end

/-- the heap has grown: what is not of the store stands -/
structure Ext (β : Be) (H : Hp) (β' : Be) (H' : Hp) : Prop where
  pre : ∃ ys, β'.l = β.l ++ ys
  same : β'.r = β.r
  keep : ∀ a o, H a = some o → a ∉ β.l → H' a = some o ∧ a ∉ β'.l
theorem Ext.keep' {β β' : Be} {H H' : Hp} (x : Ext β H β' H') {a : Addr} {o : HO} (h : H a = some o) (n : a ∉ β) : H' a = some o ∧ a ∉ β' := by
  obtain ⟨h1, h2⟩ := x.keep a o h (Be.notl n)
  exact ⟨h1, Be.not h2 (by rw [x.same]; exact Be.notr n)⟩
theorem Ext.refl {β : Be} {H : Hp} : Ext β H β H := ⟨⟨[], by simp⟩, rfl, fun _ _ h n => ⟨h, n⟩⟩
theorem Ext.trans {β β1 β2 : Be} {H H1 H2 : Hp} (a : Ext β H β1 H1) (b : Ext β1 H1 β2 H2) : Ext β H β2 H2 := by
  obtain ⟨ys, e⟩ := a.pre
  obtain ⟨zs, e'⟩ := b.pre
  refine ⟨⟨ys ++ zs, by rw [e', e, List.append_assoc]⟩, b.same.trans a.same, fun x o h n => ?_⟩
  obtain ⟨h1, n1⟩ := a.keep x o h n
  exact b.keep x o h1 n1
theorem Ext.get {β β' : Be} {H H' : Hp} (a : Ext β H β' H') {n : Nat} {x : Addr} (h : β.l[n]? = some x) : β'.l[n]? = some x := by
  obtain ⟨ys, e⟩ := a.pre
  have hl := (List.getElem?_eq_some_iff.mp h).1
  rw [e, List.getElem?_append_left hl]
  exact h
/-- a new object, not of the store -/
theorem Ext.new {β : Be} {H : Hp} {p : Addr} {o : HO} (hp : H p = none) : Ext β H β (upd H p o) :=
  ⟨⟨[], by simp⟩, rfl, fun a u h n => ⟨by rw [upd_ne (ne_of_none h hp)]; exact h, n⟩⟩
/-- a new object of the store -/
theorem Ext.newS {β : Be} {H : Hp} {p : Addr} {o : HO} (hp : H p = none) : Ext β H (β.push p) (upd H p o) :=
  ⟨⟨[p], rfl⟩, rfl, fun a u h n => ⟨by rw [upd_ne (ne_of_none h hp)]; exact h, by
    intro m
    rcases List.mem_append.mp m with m | m
    · exact n m
    · exact ne_of_none h hp (List.mem_singleton.mp m)⟩⟩
/-- an object of the store changed -/
theorem Ext.set {β : Be} {H : Hp} {a : Addr} {o : HO} (ha : a ∈ β.l) : Ext β H β (upd H a o) :=
  ⟨⟨[], by simp⟩, rfl, fun b u h n => ⟨by
    have e : b ≠ a := fun e => n (by rw [e]; exact ha)
    rw [upd_ne e]; exact h, n⟩⟩
/-- the store's end forgotten -/
theorem Ext.cut {β β' : Be} {H H' : Hp} (a : Ext β H β' H') : Ext β H β H' := ⟨⟨[], by simp⟩, rfl, fun x o h n => ⟨(a.keep x o h n).1, n⟩⟩

section
variable {K : PySem.W.Frag} {β β' : Be} {H H' : Hp}
mutual
theorem Rep.ext (x : Ext β H β' H') : ∀ (t : T) (v : V), Rep K β H t v → Rep K β' H' t v
  | .non, _, h => h
  | .bl _, _, h => h
  | .int _, _, h => h
  | .str _, _, h => h
  | .tup ts, v, ⟨hl, a, vs, e, h, n, r⟩ => by
    obtain ⟨h', n'⟩ := x.keep' h n
    exact ⟨hl, a, vs, e, h', n', Reps.ext x ts vs r⟩
  | .lst ts, v, ⟨hl, a, vs, e, h, n, r⟩ => by
    obtain ⟨h', n'⟩ := x.keep' h n
    exact ⟨hl, a, vs, e, h', n', Reps.ext x ts vs r⟩
  | .scr ns, v, ⟨hl, a, e, h⟩ => by
    refine ⟨hl, a, e, ?_⟩
    rcases h with ⟨h | ⟨o', h⟩, n⟩ | h
    · exact .inl ⟨.inl (x.keep' h n).1, (x.keep' h n).2⟩
    · exact .inl ⟨.inr ⟨o', (x.keep' h n).1⟩, (x.keep' h n).2⟩
    · exact .inr h
  | .ref n, v, ⟨a, e, h⟩ => ⟨a, e, x.get h⟩
theorem Reps.ext (x : Ext β H β' H') : ∀ (ts : List T) (vs : List V), Reps K β H ts vs → Reps K β' H' ts vs
  | [], _, h => h
  | t :: ts, _, ⟨v, r, e, h, hs⟩ => ⟨v, r, e, Rep.ext x t v h, Reps.ext x ts r hs⟩
end

theorem Reps.length : ∀ {ts : List T} {vs : List V}, Reps K β H ts vs → ts.length = vs.length
  | [], _, h => by
    have e : _ = [] := h
    simp [e]
  | t :: ts, _, ⟨v, r, e, _, hs⟩ => by rw [e, List.length_cons, List.length_cons, Reps.length hs]
theorem Reps.get : ∀ {ts : List T} {vs : List V} {i : Nat} {t : T}, Reps K β H ts vs → ts[i]? = some t → ∃ v, vs[i]? = some v ∧ Rep K β H t v
  | [], _, i, t, _, e => by simp at e
  | t0 :: ts, _, 0, t, ⟨v, r, e1, h, hs⟩, e => by
    have e' : t0 = t := Option.some.inj e
    subst e'
    exact ⟨v, by rw [e1]; rfl, h⟩
  | t0 :: ts, _, i + 1, t, ⟨v, r, e1, h, hs⟩, e => by
    obtain ⟨w, h1, h2⟩ := Reps.get (i := i) hs e
    exact ⟨w, by rw [e1]; exact h1, h2⟩
theorem Reps.append : ∀ {ts us : List T} {vs ws : List V}, Reps K β H ts vs → Reps K β H us ws → Reps K β H (ts ++ us) (vs ++ ws)
  | [], us, _, ws, h, k => by rw [show _ = [] from h]; exact k
  | t :: ts, us, _, ws, ⟨v, r, e, h, hs⟩, k => by
    rw [e]
    exact ⟨v, r ++ ws, rfl, h, Reps.append hs k⟩
theorem Reps.take : ∀ {ts : List T} {vs : List V} (n : Nat), Reps K β H ts vs → Reps K β H (ts.take n) (vs.take n)
  | [], _, n, h => by rw [show _ = [] from h]; simp [Reps]
  | t :: ts, _, 0, ⟨v, r, e, h, hs⟩ => by simp [Reps]
  | t :: ts, _, n + 1, ⟨v, r, e, h, hs⟩ => by
    rw [e]
    exact ⟨v, r.take n, rfl, h, Reps.take n hs⟩
theorem Reps.drop : ∀ {ts : List T} {vs : List V} (n : Nat), Reps K β H ts vs → Reps K β H (ts.drop n) (vs.drop n)
  | [], _, n, h => by rw [show _ = [] from h]; simp [Reps]
  | t :: ts, _, 0, ⟨v, r, e, h, hs⟩ => by rw [e]; exact ⟨v, r, rfl, h, hs⟩
  | t :: ts, _, n + 1, ⟨v, r, e, h, hs⟩ => by
    rw [e]
    exact Reps.drop n hs
theorem Reps.reverse : ∀ {ts : List T} {vs : List V}, Reps K β H ts vs → Reps K β H ts.reverse vs.reverse
  | [], _, h => by rw [show _ = [] from h]; simp [Reps]
  | t :: ts, _, ⟨v, r, e, h, hs⟩ => by
    rw [e, List.reverse_cons, List.reverse_cons]
    exact Reps.append (Reps.reverse hs) ⟨v, [], rfl, h, rfl⟩
theorem Reps.set : ∀ {ts : List T} {vs : List V} {t : T} {v : V} (n : Nat), Rep K β H t v → Reps K β H ts vs → Reps K β H (ts.set n t) (vs.set n v)
  | [], _, _, _, n, _, h => by rw [show _ = [] from h]; simp [Reps]
  | _ :: ts, _, t, v, 0, k, ⟨w, r, e, h, hs⟩ => by rw [e]; exact ⟨v, r, rfl, k, hs⟩
  | _ :: ts, _, t, v, n + 1, k, ⟨w, r, e, h, hs⟩ => by
    rw [e]
    exact ⟨w, r.set n v, rfl, h, Reps.set n k hs⟩
theorem Reps.nil : Reps K β H [] [] := rfl
theorem Reps.one {t : T} {v : V} (h : Rep K β H t v) : Reps K β H [t] [v] := ⟨v, [], rfl, h, rfl⟩
theorem Reps.cons {t : T} {v : V} {ts : List T} {vs : List V} (h : Rep K β H t v) (k : Reps K β H ts vs) : Reps K β H (t :: ts) (v :: vs) := ⟨v, vs, rfl, h, k⟩
theorem Reps.map {α : Type} (f : α → T) (g : α → V) : ∀ (xs : List α), (∀ x ∈ xs, Rep K β H (f x) (g x)) → Reps K β H (xs.map f) (xs.map g)
  | [], _ => rfl
  | x :: xs, h => ⟨g x, xs.map g, rfl, h x List.mem_cons_self, Reps.map f g xs fun y hy => h y (List.mem_cons_of_mem _ hy)⟩

/-! ### the store -/
/-- a dict's pairs -/
def keyOf : T → Option Key
  | .int i => some (.inl i)
  | .str s => some (.inr (toStr s))
  | _ => none
def KReps (K : PySem.W.Frag) (β : Be) (H : Hp) : List (T × T) → List (Key × V) → Prop
  | [], ws => ws = []
  | p :: r, ws => ∃ k v ws', ws = (k, v) :: ws' ∧ keyOf p.1 = some k ∧ Rep K β H p.1 (kV k) ∧ Rep K β H p.2 v ∧ KReps K β H r ws'
def ORep (K : PySem.W.Frag) (β : Be) (H : Hp) : MO → Addr → Prop
  | .lst ts, a => ts.length ≤ line ∧ ∃ vs, H a = some (.lst vs) ∧ Reps K β H ts vs
  | .dct kvs, a => kvs.length ≤ line ∧ ∃ ws, H a = some (.dK ws) ∧ KReps K β H kvs ws
structure SR (K : PySem.W.Frag) (β : Be) (H : Hp) (S : Store) : Prop where
  len : β.l.length = S.length
  nd : β.l.Nodup
  obj : ∀ (n : Nat) (o : MO) (a : Addr), S[n]? = some o → β.l[n]? = some a → ORep K β H o a
  res : ∀ a ∈ β.r, a ∉ β.l ∧ ∃ o, H a = some o
theorem KReps.ext {β' : Be} {H' : Hp} (x : Ext β H β' H') : ∀ {ps : List (T × T)} {ws : List (Key × V)}, KReps K β H ps ws → KReps K β' H' ps ws
  | [], _, h => h
  | p :: r, _, ⟨k, v, ws', e, hk, h1, h2, hs⟩ => ⟨k, v, ws', e, hk, Rep.ext x _ _ h1, Rep.ext x _ _ h2, KReps.ext x hs⟩
theorem SR.at {S : Store} (h : SR K β H S) {n : Nat} {o : MO} (e : S[n]? = some o) : ∃ a, β.l[n]? = some a ∧ ORep K β H o a := by
  have hl := (List.getElem?_eq_some_iff.mp e).1
  have hb : n < β.l.length := by rw [h.len]; exact hl
  exact ⟨β.l[n], List.getElem?_eq_getElem hb, h.obj n o _ e (List.getElem?_eq_getElem hb)⟩
theorem SR.new {S : Store} (h : SR K β H S) {p : Addr} {o : HO} (hp : H p = none) : SR K β (upd H p o) S := by
  have x : Ext β H β (upd H p o) := Ext.new hp
  refine ⟨h.len, h.nd, fun n mo a e1 e2 => ?_, fun a ha => ⟨(h.res a ha).1, let ⟨u, hu⟩ := (h.res a ha).2; ⟨u, (x.keep a u hu (h.res a ha).1).1⟩⟩⟩
  have q := h.obj n mo a e1 e2
  cases mo with
  | lst ts =>
    obtain ⟨hl, vs, hv, r⟩ := q
    exact ⟨hl, vs, by rw [upd_ne (ne_of_none hv hp)]; exact hv, Reps.ext x _ _ r⟩
  | dct kvs =>
    obtain ⟨hl, ws, hv, r⟩ := q
    exact ⟨hl, ws, by rw [upd_ne (ne_of_none hv hp)]; exact hv, KReps.ext x r⟩
theorem SR.there {S : Store} (h : SR K β H S) {n : Nat} {a : Addr} (e : β.l[n]? = some a) : ∃ o, H a = some o := by
  have hb := (List.getElem?_eq_some_iff.mp e).1
  have hl : n < S.length := by rw [← h.len]; exact hb
  have q := h.obj n S[n] a (List.getElem?_eq_getElem hl) e
  cases hS : S[n] with
  | lst ts =>
    rw [hS] at q
    obtain ⟨_, vs, hv, _⟩ := q
    exact ⟨_, hv⟩
  | dct kvs =>
    rw [hS] at q
    obtain ⟨_, vs, hv, _⟩ := q
    exact ⟨_, hv⟩
theorem SR.fresh {S : Store} (h : SR K β H S) {p : Addr} (hp : H p = none) : p ∉ β := fun m => by
  rcases m with m | m
  · obtain ⟨n, e⟩ := List.mem_iff_getElem?.mp m
    obtain ⟨o, ho⟩ := h.there e
    rw [hp] at ho
    cases ho
  · obtain ⟨o, ho⟩ := (h.res p m).2
    rw [hp] at ho
    cases ho
/-- a new object of the store -/
theorem SR.newS {S : Store} (h : SR K β H S) {p : Addr} {o : HO} {mo : MO} (hp : H p = none) (hn : ORep K (β.push p) (upd H p o) mo p) : SR K (β.push p) (upd H p o) (S ++ [mo]) := by
  have x : Ext β H (β.push p) (upd H p o) := Ext.newS hp
  have hf := h.fresh hp
  refine ⟨by show (β.l ++ [p]).length = _; rw [List.length_append, List.length_append, h.len] <;> rfl, ?_, fun n m a e1 e2 => ?_, fun a ha => ?_⟩
  · show (β.l ++ [p]).Nodup
    rw [List.nodup_append]
    refine ⟨h.nd, by simp, fun a ha b hb => ?_⟩
    intro e
    rw [e, List.mem_singleton.mp hb] at ha
    exact hf (.inl ha)
  · have e2 : (β.l ++ [p])[n]? = some a := e2
    by_cases hl : n < S.length
    · rw [List.getElem?_append_left hl] at e1
      rw [List.getElem?_append_left (by rw [h.len]; exact hl)] at e2
      have q := h.obj n m a e1 e2
      cases m with
      | lst ts =>
        obtain ⟨hl, vs, hv, r⟩ := q
        exact ⟨hl, vs, by rw [upd_ne (ne_of_none hv hp)]; exact hv, Reps.ext x _ _ r⟩
      | dct kvs =>
        obtain ⟨hl, ws, hv, r⟩ := q
        exact ⟨hl, ws, by rw [upd_ne (ne_of_none hv hp)]; exact hv, KReps.ext x r⟩
    · have hle : S.length ≤ n := Nat.le_of_not_lt hl
      rw [List.getElem?_append_right hle] at e1
      rw [List.getElem?_append_right (by rw [h.len]; exact hle), h.len] at e2
      have hz : n - S.length = 0 := by
        have := (List.getElem?_eq_some_iff.mp e1).1
        simp at this
        omega
      rw [hz] at e1 e2
      have e1' : mo = m := Option.some.inj e1
      have e2' : p = a := Option.some.inj e2
      rw [← e1', ← e2']
      exact hn
  · obtain ⟨u, hu⟩ := (h.res a ha).2
    exact ⟨(x.keep a u hu (h.res a ha).1).2, u, (x.keep a u hu (h.res a ha).1).1⟩
/-- an object of the store changed -/
theorem SR.set {S : Store} (h : SR K β H S) {n : Nat} {a : Addr} {o : HO} {mo : MO} (ha : β.l[n]? = some a) (hn : ORep K β (upd H a o) mo a) : SR K β (upd H a o) (S.set n mo) := by
  have hm : a ∈ β.l := List.mem_of_getElem? ha
  have x : Ext β H β (upd H a o) := Ext.set hm
  refine ⟨by rw [List.length_set]; exact h.len, h.nd, fun i m b e1 e2 => ?_, fun b hb => ⟨(h.res b hb).1, let ⟨u, hu⟩ := (h.res b hb).2; ⟨u, (x.keep b u hu (h.res b hb).1).1⟩⟩⟩
  by_cases hi : i = n
  · subst hi
    have hl : i < S.length := by
      have := (List.getElem?_eq_some_iff.mp e1).1
      rwa [List.length_set] at this
    rw [List.getElem?_set_self hl] at e1
    have e1' : mo = m := Option.some.inj e1
    have e2' : a = b := Option.some.inj (ha.symm.trans e2)
    rw [← e1', ← e2']
    exact hn
  · rw [List.getElem?_set_ne (Ne.symm hi)] at e1
    have hne : b ≠ a := by
      intro e
      rw [e] at e2
      obtain ⟨h1, g1⟩ := List.getElem?_eq_some_iff.mp ha
      obtain ⟨h2, g2⟩ := List.getElem?_eq_some_iff.mp e2
      exact hi ((List.getElem_inj h.nd).mp (g2.trans g1.symm))
    have q := h.obj i m b e1 e2
    cases m with
    | lst ts =>
      obtain ⟨hl, vs, hv, r⟩ := q
      exact ⟨hl, vs, by rw [upd_ne hne]; exact hv, Reps.ext x _ _ r⟩
    | dct kvs =>
      obtain ⟨hl, ws, hv, r⟩ := q
      exact ⟨hl, ws, by rw [upd_ne hne]; exact hv, KReps.ext x r⟩
end
end Mi
/-! MiC2: the evaluator's answers as readings of the hand layer; names, constants, operators. -/
namespace Mi
open PySem PySem.Spec PyProof.Rows L2

/-- what is fixed through a law: the text's world, the defs -/
structure Wd where
  P : Program
  w : World
  K : PySem.W.Frag
  mg : Str → Option Value
  base : Heap
  nm : Nm
  G : Tab
  gv : Nat → Option T
  fuel : Nat
  /-- an error's class -/
  cls : Nat → Addr
  /-- a def's object -/
  fa : Nat → Addr
  fd : Nat → FuncData
  ps : Nat → List Str

def Wd.cfg (W : Wd) (d : Nat) : Cfg := ⟨callN W.G W.gv W.fuel d, W.gv, W.fuel⟩
def lvl (d : Nat) : Nat := d + 40

/-- the names of built-ins that the text uses stand for them -/
def bltNames : List Str := ["isinstance", "str", "tuple", "int", "bool", "len", "all", "any", "sum", "list", "min", "max", "sorted", "set", "dict", "enumerate", "zip", "range"]
/-- a def's call -/
def spOf0 (W : Wd) (Post : XK → Be → Hp → Res T → VK → Prop) (d f : Nat) : Sp := fun vs H Q E => vs.length = (W.ps f).length ∧ ∃ β S args, SR W.K β H S ∧ Reps W.K β H args vs ∧ Post E β H (callN W.G W.gv W.fuel d f args S) Q
structure Wd.Ok (W : Wd) : Prop where
  has : ∀ f, W.nm.has f = true → ∃ fd, W.G f = some fd
  fn : ∀ f fd, W.G f = some fd → W.mg (W.nm.f f) = some (.ref (W.fa f)) ∧ PySem.W.keepIn W.K (.ref (W.fa f)) = true ∧ Binds W.K (W.fd f) (W.ps f) [] ∧ (W.ps f).length = fd.params
  blt : ∀ x ∈ bltNames, W.mg x = none
  gl : ∀ g t, W.gv g = some t → ∃ u v, W.mg (W.nm.g g) = some u ∧ RelV v u ∧ (∀ β H, Rep W.K β H t v)

/-- what is wanted behind an evaluation -/
def PostE (W : Wd) (EX : XK) (β : Be) (H : Hp) (r : Res T) (Q : VK) : Prop :=
  match r with
  | .ok v S => ∀ β' H' x, Ext β H β' H' → SR W.K β' H' S → Rep W.K β' H' v x → Q x H'
  | .err c S => ∀ β' H', Ext β H β' H' → SR W.K β' H' S → EX (.ref (W.cls c)) none H'
  | .fail => False
abbrev spOf (W : Wd) (d f : Nat) : Sp := spOf0 W (PostE W) d f
/-- every def keeps its promise, with d calls within one another -/
def Wd.Fns (W : Wd) (d : Nat) : Prop := ∀ f fd, W.G f = some fd → FnOk W.P W.w W.K W.mg W.base (L2.CX W.P W.w) (lvl d) (W.fa f) (W.fd f) (W.ps f) (spOf W d f)
def PostA (W : Wd) (EX : XK) (β : Be) (H : Hp) (r : Res (List T)) (Q : List V → Hp → Prop) : Prop :=
  match r with
  | .ok v S => ∀ β' H' x, Ext β H β' H' → SR W.K β' H' S → Reps W.K β' H' v x → Q x H'
  | .err c S => ∀ β' H', Ext β H β' H' → SR W.K β' H' S → EX (.ref (W.cls c)) none H'
  | .fail => False
def PostT (W : Wd) (EX : XK) (β : Be) (H : Hp) (r : Res Bool) (Q : Bool → Hp → Prop) : Prop :=
  match r with
  | .ok v S => ∀ β' H', Ext β H β' H' → SR W.K β' H' S → Q v H'
  | .err c S => ∀ β' H', Ext β H β' H' → SR W.K β' H' S → EX (.ref (W.cls c)) none H'
  | .fail => False

def EnvR (K : PySem.W.Frag) (β : Be) (H : Hp) (env : Env) (σ : L2.St) : Prop :=
  env.length = σ.length ∧ ∀ (i : Nat) (t : T), env[i]? = some (some t) → ∃ v, σ[i]? = some (some v) ∧ Rep K β H t v
theorem EnvR.ext {K : PySem.W.Frag} {β β' : Be} {H H' : Hp} {env : Env} {σ : L2.St} (e : EnvR K β H env σ) (x : Ext β H β' H') : EnvR K β' H' env σ :=
  ⟨e.1, fun i t h => let ⟨v, h1, h2⟩ := e.2 i t h; ⟨v, h1, Rep.ext x _ _ h2⟩⟩
theorem EnvR.set {K : PySem.W.Frag} {β : Be} {H : Hp} {env : Env} {σ : L2.St} (e : EnvR K β H env σ) {t : T} {v : V} (r : Rep K β H t v) (i : Nat) : EnvR K β H (env.set i (some t)) (σ.set i (some v)) := by
  refine ⟨by rw [List.length_set, List.length_set]; exact e.1, fun j u h => ?_⟩
  by_cases hj : j = i
  · subst hj
    have hl : j < env.length := by
      have := (List.getElem?_eq_some_iff.mp h).1
      rwa [List.length_set] at this
    rw [List.getElem?_set_self hl] at h
    have h' : t = u := Option.some.inj (Option.some.inj h)
    subst h'
    exact ⟨v, by rw [List.getElem?_set_self (by rw [← e.1]; exact hl)], r⟩
  · rw [List.getElem?_set_ne (Ne.symm hj)] at h
    obtain ⟨w, h1, h2⟩ := e.2 j u h
    exact ⟨w, by rw [List.getElem?_set_ne (Ne.symm hj)]; exact h1, h2⟩
theorem wipe_len (env : Env) : ∀ vs : List Nat, (wipe env vs).length = env.length
  | [] => rfl
  | v :: vs => by unfold wipe; rw [List.length_set, wipe_len env vs]
theorem EnvR.wipe {K : PySem.W.Frag} {β : Be} {H : Hp} {env : Env} {σ : L2.St} (e : EnvR K β H env σ) : ∀ vs : List Nat, EnvR K β H (Mi.wipe env vs) (L2.wipe σ vs)
  | [] => e
  | v :: vs => by
    have ih := EnvR.wipe e vs
    refine ⟨by unfold Mi.wipe L2.wipe; rw [List.length_set, List.length_set]; exact ih.1, fun j u h => ?_⟩
    unfold Mi.wipe at h
    by_cases hj : j = v
    · subst hj
      have hl : j < (Mi.wipe env vs).length := by
        have := (List.getElem?_eq_some_iff.mp h).1
        rwa [List.length_set] at this
      rw [List.getElem?_set_self hl] at h
      cases h
    · rw [List.getElem?_set_ne (Ne.symm hj)] at h
      obtain ⟨w, h1, h2⟩ := ih.2 j u h
      exact ⟨w, by unfold L2.wipe; rw [List.getElem?_set_ne (Ne.symm hj)]; exact h1, h2⟩

section
variable {W : Wd} {EX : XK} {β : Be} {H : Hp}
theorem PostE.mono {r : Res T} {Q Q' : VK} (h : PostE W EX β H r Q) (f : ∀ x H', Q x H' → Q' x H') : PostE W EX β H r Q' := by
  cases r with
  | ok v S => exact fun β' H' x a b c => f _ _ (h β' H' x a b c)
  | err c S => exact h
  | fail => exact h
/-- an evaluation, then what is made of its value -/
theorem PostE.bnd {r : Res T} {f : T → Store → Res T} {Q : VK} (h : PostE W EX β H (Mi.bnd r f) Q) :
    PostE W EX β H r (fun x H1 => ∃ β1 S1 v, Ext β H β1 H1 ∧ SR W.K β1 H1 S1 ∧ Rep W.K β1 H1 v x ∧ PostE W EX β1 H1 (f v S1) Q) := by
  cases r with
  | ok v S =>
    intro β' H' x e s r
    refine ⟨β', S, v, e, s, r, ?_⟩
    have h' : PostE W EX β H (f v S) Q := h
    cases hf : f v S with
    | ok v2 S2 => rw [hf] at h'; exact fun β2 H2 x2 e2 s2 r2 => h' β2 H2 x2 (e.trans e2) s2 r2
    | err c S2 => rw [hf] at h'; exact fun β2 H2 e2 s2 => h' β2 H2 (e.trans e2) s2
    | fail => rw [hf] at h'; exact h'
  | err c S => exact h
  | fail => exact h
theorem PostE.bndA {r : Res T} {f : T → Store → Res (List T)} {Q : List V → Hp → Prop} (h : PostA W EX β H (Mi.bnd r f) Q) :
    PostE W EX β H r (fun x H1 => ∃ β1 S1 v, Ext β H β1 H1 ∧ SR W.K β1 H1 S1 ∧ Rep W.K β1 H1 v x ∧ PostA W EX β1 H1 (f v S1) Q) := by
  cases r with
  | ok v S =>
    intro β' H' x e s r
    refine ⟨β', S, v, e, s, r, ?_⟩
    have h' : PostA W EX β H (f v S) Q := h
    cases hf : f v S with
    | ok v2 S2 => rw [hf] at h'; exact fun β2 H2 x2 e2 s2 r2 => h' β2 H2 x2 (e.trans e2) s2 r2
    | err c S2 => rw [hf] at h'; exact fun β2 H2 e2 s2 => h' β2 H2 (e.trans e2) s2
    | fail => rw [hf] at h'; exact h'
  | err c S => exact h
  | fail => exact h
theorem PostA.bndA {r : Res (List T)} {f : List T → Store → Res (List T)} {Q : List V → Hp → Prop} (h : PostA W EX β H (Mi.bnd r f) Q) :
    PostA W EX β H r (fun x H1 => ∃ β1 S1 v, Ext β H β1 H1 ∧ SR W.K β1 H1 S1 ∧ Reps W.K β1 H1 v x ∧ PostA W EX β1 H1 (f v S1) Q) := by
  cases r with
  | ok v S =>
    intro β' H' x e s r
    refine ⟨β', S, v, e, s, r, ?_⟩
    have h' : PostA W EX β H (f v S) Q := h
    cases hf : f v S with
    | ok v2 S2 => rw [hf] at h'; exact fun β2 H2 x2 e2 s2 r2 => h' β2 H2 x2 (e.trans e2) s2 r2
    | err c S2 => rw [hf] at h'; exact fun β2 H2 e2 s2 => h' β2 H2 (e.trans e2) s2
    | fail => rw [hf] at h'; exact h'
  | err c S => exact h
  | fail => exact h
theorem PostA.bnd {r : Res (List T)} {f : List T → Store → Res T} {Q : VK} (h : PostE W EX β H (Mi.bnd r f) Q) :
    PostA W EX β H r (fun x H1 => ∃ β1 S1 v, Ext β H β1 H1 ∧ SR W.K β1 H1 S1 ∧ Reps W.K β1 H1 v x ∧ PostE W EX β1 H1 (f v S1) Q) := by
  cases r with
  | ok v S =>
    intro β' H' x e s r
    refine ⟨β', S, v, e, s, r, ?_⟩
    have h' : PostE W EX β H (f v S) Q := h
    cases hf : f v S with
    | ok v2 S2 => rw [hf] at h'; exact fun β2 H2 x2 e2 s2 r2 => h' β2 H2 x2 (e.trans e2) s2 r2
    | err c S2 => rw [hf] at h'; exact fun β2 H2 e2 s2 => h' β2 H2 (e.trans e2) s2
    | fail => rw [hf] at h'; exact h'
  | err c S => exact h
  | fail => exact h
/-- nothing is made: the value is at hand -/
theorem PostE.here {v : T} {S : Store} {Q : VK} {x : V} (h : PostE W EX β H (.ok v S) Q) (s : SR W.K β H S) (r : Rep W.K β H v x) : Q x H := h β H x Ext.refl s r
end

/-- the readings -/
def tE (W : Wd) (d : Nat) (EX : XK) (m : ME) : TE := fun σ H Q => ∃ β env S, SR W.K β H S ∧ EnvR W.K β H env σ ∧ PostE W EX β H (ev (W.cfg d) m env S) Q
def tA (W : Wd) (d : Nat) (EX : XK) (ms : List ME) : TA := fun σ H Q => ∃ β env S, SR W.K β H S ∧ EnvR W.K β H env σ ∧ PostA W EX β H (evs (W.cfg d) ms env S) Q
def tT (W : Wd) (d : Nat) (EX : XK) (m : ME) : TT := fun σ H Q => ∃ β env S, SR W.K β H S ∧ EnvR W.K β H env σ ∧ PostT W EX β H (evT (W.cfg d) m env S) Q

/-- a context that the layer's rules may be used in -/
structure Good (W : Wd) (d : Nat) (X : Cx) (Z : Sc) (EX : XK) : Prop where
  prog : X.prog = W.P
  w : X.w = W.w
  K : X.K = W.K
  mg : X.mg = W.mg
  base : X.base = W.base
  calm : X.calm = true
  room : Room (lvl d) X.A
  N : X.N = Z.N
  nd : X.N.Nodup
  sc : X.env.scope = Z.sc
  fn : X.fn = Z.fn
  nm : Z.nm = W.nm
  pass : Passes (L2.CX X.prog X.w) X EX

theorem _root_.L2.PE.impI {X : Cx} {e : Expr} {t t' : TE} (h : PE X e t) (f : ∀ pins s σ H Q, Inv X pins σ H s → t' σ H Q → t σ H Q) : PE X e t' :=
  ⟨fun pins s σ H Q I q => h.run pins s σ H Q I (f pins s σ H Q I q)⟩
theorem _root_.L2.PE.imp {X : Cx} {e : Expr} {t t' : TE} (h : PE X e t) (f : ∀ σ H Q, t' σ H Q → t σ H Q) : PE X e t' := h.impI fun _ _ σ H Q _ q => f σ H Q q
theorem _root_.L2.PT.imp {X : Cx} {e : Expr} {t t' : TT} (h : PT X e t) (f : ∀ σ H Q, t' σ H Q → t σ H Q) : PT X e t' :=
  ⟨fun pins s σ H Q I q => h.run pins s σ H Q I (f σ H Q q)⟩
theorem _root_.L2.PA.imp {X : Cx} {e : List Expr} {t t' : TA} (h : PA X e t) (f : ∀ σ H Q, t' σ H Q → t σ H Q) : PA X e t' :=
  ⟨fun pos pins s σ H Q I q => h.run pos pins s σ H Q I (f σ H Q q)⟩
theorem _root_.L2.PS.imp {X : Cx} {e : Stmt} {t t' : TS} (h : PS X e t) (f : ∀ D σ H, t' D σ H → t D σ H) : PS X e t' :=
  ⟨fun pins s σ H Q I q => h.run pins s σ H Q I (f Q σ H q)⟩

section
variable {W : Wd} {d : Nat} {EX : XK} {X : Cx} {Z : Sc} (g : Good W d X Z EX)
include g

theorem vis_of {x : Str} (h : visB Z x = true) : Vis X.env.scope x := by
  unfold visB at h
  rw [g.sc]
  unfold Vis
  cases q : Z.sc.names.lookup x with
  | none => rw [q] at h; cases h
  | some k => cases k <;> rw [q] at h <;> simp_all
theorem glb_of {x : Str} (h : glbB Z x = true) : Gl X x ∧ (x == ("__debug__" : Str)) = false ∧ x ≠ "__name__" := by
  unfold glbB at h
  simp only [Bool.and_eq_true, decide_eq_true_eq] at h
  obtain ⟨⟨h1, h2⟩, h3⟩ := h
  refine ⟨?_, by simpa using h2, h3⟩
  unfold Gl Env.kindOf
  rw [g.sc]
  exact h1
theorem snd_var {i : Nat} {e : Expr} (h : eqE (.var i) Z e = true) : PE X e (tE W d EX (.var i)) := by
  cases e <;> simp only [eqE, Bool.and_eq_true, decide_eq_true_eq, Bool.false_eq_true] at h
  rename_i x pos
  obtain ⟨⟨⟨h1, h2⟩, h3⟩, h4⟩ := h
  have hi : X.N[i]? = some x := by rw [g.N]; exact of_decide_eq_true h1
  refine (pe_var hi (vis_of g h2) (by simpa using h3) (by simpa using h4)).imp fun σ H Q ⟨β, env, S, hS, hE, hp⟩ => ?_
  unfold ev at hp
  split at hp
  · rename_i v hv
    obtain ⟨w, h1, h2⟩ := hE.2 i v hv
    exact ⟨w, h1, hp.here hS h2⟩
  · exact hp.elim
theorem snd_int {i : Int} {e : Expr} (h : eqE (.int i) Z e = true) : PE X e (tE W d EX (.int i)) := by
  cases e <;> try simp only [eqE, Bool.false_eq_true] at h
  rename_i c k pos
  cases c <;> simp only [eqE, Bool.false_eq_true, decide_eq_true_eq] at h
  subst h
  exact pe_int.imp fun σ H Q ⟨β, env, S, hS, hE, hp⟩ => PostE.here (v := .int i) (x := .int i) (by simpa [ev] using hp) hS rfl
theorem snd_str {s : List Char} {e : Expr} (h : eqE (.str s) Z e = true) : PE X e (tE W d EX (.str s)) := by
  cases e <;> try simp only [eqE, Bool.false_eq_true] at h
  rename_i c k pos
  cases c <;> simp only [eqE, Bool.false_eq_true, Bool.and_eq_true, decide_eq_true_eq] at h
  obtain ⟨h1, h2⟩ := h
  subst h1
  exact pe_str.imp fun σ H Q ⟨β, env, S, hS, hE, hp⟩ => PostE.here (v := .str s) (x := .str (toStr s)) (by simpa [ev] using hp) hS ⟨rfl, by unfold line; omega⟩
theorem snd_bl {b : Bool} {e : Expr} (h : eqE (.bl b) Z e = true) : PE X e (tE W d EX (.bl b)) := by
  cases e <;> try simp only [eqE, Bool.false_eq_true] at h
  rename_i c k pos
  cases c <;> simp only [eqE, Bool.false_eq_true, beq_iff_eq] at h
  subst h
  exact pe_bl.imp fun σ H Q ⟨β, env, S, hS, hE, hp⟩ => PostE.here (v := .bl b) (x := .bl b) (by simpa [ev] using hp) hS rfl
theorem snd_non {e : Expr} (h : eqE .non Z e = true) : PE X e (tE W d EX .non) := by
  cases e <;> try simp only [eqE, Bool.false_eq_true] at h
  rename_i c k pos
  cases c <;> simp only [eqE, Bool.false_eq_true] at h
  exact pe_non.imp fun σ H Q ⟨β, env, S, hS, hE, hp⟩ => PostE.here (v := .non) (x := .non) (by simpa [ev] using hp) hS rfl
theorem snd_glob (ok : W.Ok) {i : Nat} {e : Expr} (h : eqE (.glob i) Z e = true) : PE X e (tE W d EX (.glob i)) := by
  cases e <;> simp only [eqE, Bool.and_eq_true, decide_eq_true_eq, Bool.false_eq_true] at h
  rename_i x pos
  obtain ⟨h1, h2⟩ := h
  obtain ⟨hg, hd, _⟩ := glb_of g h2
  refine ⟨fun pins s σ H Q I ⟨β, env, S, hS, hE, hp⟩ => ?_⟩
  cases ht : W.gv i with
  | none => 
    have hp' : PostE W EX β H .fail Q := by simpa [ev, Wd.cfg, ht, optR] using hp
    exact hp'.elim
  | some t =>
    obtain ⟨u, v, hm, hr, hrep⟩ := ok.gl i t ht
    have hp' : PostE W EX β H (.ok t S) Q := by simpa [ev, Wd.cfg, ht, optR] using hp
    refine (pe_glob hg (by rw [g.mg, h1, g.nm]; exact hm) hr hd).run pins s σ H Q I ?_
    exact hp'.here hS (hrep β H)
end
end Mi
/-! MiC3: displays, operators, comparisons, tests. -/
namespace Mi
open PySem PySem.Spec PyProof.Rows L2

theorem line_eq : line = sizeLine := by rw [sizeLine_eq]; rfl
theorem le_line {n : Nat} (h : n ≤ line) : n ≤ sizeLine := by rw [← line_eq]; exact h

section
variable {W : Wd} {EX : XK} {β : Be} {H : Hp}
theorem PostA.mono {r : Res (List T)} {Q Q' : List V → Hp → Prop} (h : PostA W EX β H r Q) (f : ∀ x H', Q x H' → Q' x H') : PostA W EX β H r Q' := by
  cases r with
  | ok v S => exact fun β' H' x a b c => f _ _ (h β' H' x a b c)
  | err c S => exact h
  | fail => exact h
theorem PostT.mono {r : Res Bool} {Q Q' : Bool → Hp → Prop} (h : PostT W EX β H r Q) (f : ∀ x H', Q x H' → Q' x H') : PostT W EX β H r Q' := by
  cases r with
  | ok v S => exact fun β' H' a b => f _ _ (h β' H' a b)
  | err c S => exact h
  | fail => exact h
theorem PostE.mono' {r : Res T} {Q Q' : VK} (h : PostE W EX β H r Q) (f : ∀ v S x H', r = .ok v S → Q x H' → Q' x H') : PostE W EX β H r Q' := by
  cases r with
  | ok v S => exact fun β' H' x a b c => f v S _ _ rfl (h β' H' x a b c)
  | err c S => exact h
  | fail => exact h
theorem PostE.bndT {r : Res T} {f : T → Store → Res Bool} {Q : Bool → Hp → Prop} (h : PostT W EX β H (Mi.bnd r f) Q) :
    PostE W EX β H r (fun x H1 => ∃ β1 S1 v, Ext β H β1 H1 ∧ SR W.K β1 H1 S1 ∧ Rep W.K β1 H1 v x ∧ PostT W EX β1 H1 (f v S1) Q) := by
  cases r with
  | ok v S =>
    intro β' H' x e s r
    refine ⟨β', S, v, e, s, r, ?_⟩
    have h' : PostT W EX β H (f v S) Q := h
    cases hf : f v S with
    | ok v2 S2 => rw [hf] at h'; exact fun β2 H2 e2 s2 => h' β2 H2 (e.trans e2) s2
    | err c S2 => rw [hf] at h'; exact fun β2 H2 e2 s2 => h' β2 H2 (e.trans e2) s2
    | fail => rw [hf] at h'; exact h'
  | err c S => exact h
  | fail => exact h

/-- a new tuple -/
theorem PostE.newTup {vs : List T} {xs : List V} {S : Store} {Q : VK} (h : PostE W EX β H (.ok (.tup vs) S) Q) (s : SR W.K β H S) (r : Reps W.K β H vs xs) (hl : vs.length ≤ line) : xs.length ≤ sizeLine ∧ ∀ p, H p = none → Q (.ref p) (upd H p (.tup xs)) := by
  refine ⟨by rw [← r.length]; exact le_line hl, fun p hp => ?_⟩
  have x : Ext β H β (upd H p (.tup xs)) := Ext.new hp
  exact h β _ _ x (s.new hp) ⟨hl, p, xs, rfl, upd_same, s.fresh hp, Reps.ext x _ _ r⟩
theorem PostE.newLst {heap : Bool} {vs : List T} {xs : List V} {S : Store} {Q : VK} (h : PostE W EX β H (newList heap vs S) Q) (s : SR W.K β H S) (r : Reps W.K β H vs xs) (hl : vs.length ≤ line) : xs.length ≤ sizeLine ∧ ∀ p, H p = none → Q (.ref p) (upd H p (.lst xs)) := by
  refine ⟨by rw [← r.length]; exact le_line hl, fun p hp => ?_⟩
  cases heap with
  | false =>
    have x : Ext β H β (upd H p (.lst xs)) := Ext.new hp
    exact h β _ _ x (s.new hp) ⟨hl, p, xs, rfl, upd_same, s.fresh hp, Reps.ext x _ _ r⟩
  | true =>
    have x : Ext β H (β.push p) (upd H p (.lst xs)) := Ext.newS hp
    refine h (β.push p) _ _ x (s.newS hp ⟨hl, xs, upd_same, Reps.ext x _ _ r⟩) ⟨p, rfl, ?_⟩
    show (β.l ++ [p])[S.length]? = some p
    rw [← s.len, List.getElem?_append_right (Nat.le_refl _), Nat.sub_self]
    rfl
theorem view_lst {S : Store} {t : T} {v : V} {xs : List T} (s : SR W.K β H S) (r : Rep W.K β H t v) (e : view S t = .lst xs) : xs.length ≤ line ∧ ∃ a vs, v = .ref a ∧ H a = some (.lst vs) ∧ Reps W.K β H xs vs := by
  unfold view at e
  split at e
  · rename_i n
    split at e
    · rename_i ys hy
      injection e with e
      subst e
      obtain ⟨a, rfl, ha⟩ := r
      obtain ⟨a', ha', hl, vs, hv, hr⟩ := s.at hy
      rw [ha] at ha'
      cases ha'
      exact ⟨hl, a, vs, rfl, hv, hr⟩
    · cases e
  · subst e
    obtain ⟨hl, a, vs, e1, h, _, hr⟩ := r
    exact ⟨hl, a, vs, e1, h, hr⟩
theorem view_tup {S : Store} {t : T} {xs : List T} (e : view S t = .tup xs) : t = .tup xs := by
  unfold view at e
  split at e
  · split at e <;> cases e
  · exact e
theorem view_int {S : Store} {t : T} {i : Int} (e : view S t = .int i) : t = .int i := by
  unfold view at e
  split at e
  · split at e <;> cases e
  · exact e
theorem view_str {S : Store} {t : T} {i : List Char} (e : view S t = .str i) : t = .str i := by
  unfold view at e
  split at e
  · split at e <;> cases e
  · exact e
theorem view_scr {S : Store} {t : T} {i : List Int} (e : view S t = .scr i) : t = .scr i := by
  unfold view at e
  split at e
  · split at e <;> cases e
  · exact e
theorem toStr_append (s t : List Char) : toStr s ++ toStr t = toStr (s ++ t) := by
  show Str.mk _ = Str.mk _
  simp [toStr, codes]
theorem toStr_length (s : List Char) : (toStr s).length = s.length := by simp [toStr, codes, Str.length]
end

section
variable {W : Wd} {d : Nat} {EX : XK} {X : Cx} {Z : Sc}
theorem eq_nostar {m : ME} {Z : Sc} {e : Expr} (h : eqE m Z e = true) {env : PySem.Env} {es : List Expr} : starEach (e :: es) env = (false, eval e env) :: starEach es env := by
  cases e with
  | Starred a p => cases m <;> simp [eqE] at h
  | _ => rfl
theorem sndA_nil : PA X [] (tA W d EX []) := pa_nil.imp fun σ H Q ⟨β, env, S, hS, hE, hp⟩ => by
  have hp' : PostA W EX β H (.ok [] S) Q := by simpa [evs] using hp
  exact hp' β H [] Ext.refl hS rfl
theorem sndA_cons {m : ME} {ms : List ME} {e : Expr} {es : List Expr} (ha : PE X e (tE W d EX m)) (hr : PA X es (tA W d EX ms)) (hs : ∀ env, starEach (e :: es) env = (false, eval e env) :: starEach es env) :
    PA X (e :: es) (tA W d EX (m :: ms)) := (pa_cons ha hr (hs _)).imp fun σ H Q ⟨β, env, S, hS, hE, hp⟩ => by
  unfold evs at hp
  refine ⟨β, env, S, hS, hE, (PostE.bndA hp).mono fun x H1 ⟨β1, S1, v, x1, s1, r1, hp1⟩ => ?_⟩
  refine ⟨β1, env, S1, s1, hE.ext x1, (PostA.bndA hp1).mono fun xs H2 ⟨β2, S2, vs, x2, s2, r2, hp2⟩ => ?_⟩
  exact hp2 β2 H2 (x :: xs) Ext.refl s2 (.cons (Rep.ext x2 _ _ r1) r2)
theorem evs_length {c : Cfg} : ∀ {es : List ME} {env : Env} {S S' : Store} {vs : List T}, evs c es env S = .ok vs S' → vs.length = es.length
  | [], env, S, S', vs, h => by
    simp only [evs, Res.ok.injEq] at h
    rw [← h.1]
    rfl
  | e :: es, env, S, S', vs, h => by
    unfold evs at h
    cases h1 : ev c e env S with
    | ok v S1 =>
      rw [h1, bnd_ok] at h
      cases h2 : evs c es env S1 with
      | ok ws S2 =>
        rw [h2, bnd_ok] at h
        injection h with h _
        rw [← h, List.length_cons, List.length_cons, evs_length h2]
      | err c S2 => rw [h2] at h; cases h
      | fail => rw [h2] at h; cases h
    | err c S1 => rw [h1] at h; cases h
    | fail => rw [h1] at h; cases h
theorem PostA.lens {β : Be} {H : Hp} {es : List ME} {env : Env} {S : Store} {Q : List V → Hp → Prop} {f : List T → Store → Res T} {Q' : VK} (h : PostE W EX β H (Mi.bnd (evs (W.cfg d) es env S) f) Q') :
    PostA W EX β H (evs (W.cfg d) es env S) (fun x H1 => ∃ β1 S1 v, v.length = es.length ∧ Ext β H β1 H1 ∧ SR W.K β1 H1 S1 ∧ Reps W.K β1 H1 v x ∧ PostE W EX β1 H1 (f v S1) Q') := by
  have h2 := PostA.bnd h
  cases hr : evs (W.cfg d) es env S with
  | ok v S1 =>
    rw [hr] at h
    intro β' H' x e s r
    refine ⟨β', S1, v, evs_length hr, e, s, r, ?_⟩
    have h' : PostE W EX β H (f v S1) Q' := h
    cases hf : f v S1 with
    | ok v2 S2 => rw [hf] at h'; exact fun β2 H2 x2 e2 s2 r2 => h' β2 H2 x2 (e.trans e2) s2 r2
    | err c S2 => rw [hf] at h'; exact fun β2 H2 e2 s2 => h' β2 H2 (e.trans e2) s2
    | fail => rw [hf] at h'; exact h'
  | err c S1 => rw [hr] at h2; exact h2
  | fail => rw [hr] at h2; exact h2
theorem snd_tup {es : List ME} {fs : List Expr} {k : Nat} {pos : Pos} (ha : PA X fs (tA W d EX es)) (hl : es.length ≤ 1000) : PE X (.Tuple fs k pos) (tE W d EX (.tup es)) :=
  (pe_tup ha).imp fun σ H Q ⟨β, env, S, hS, hE, hp⟩ => by
    unfold ev at hp
    refine ⟨β, env, S, hS, hE, (PostA.lens (Q := fun _ _ => True) hp).mono fun xs H1 ⟨β1, S1, vs, hn, x1, s1, r1, hp1⟩ => ?_⟩
    exact hp1.newTup s1 r1 (by unfold line; omega)
theorem snd_lst {heap : Bool} {es : List ME} {fs : List Expr} {pos : Pos} (ha : PA X fs (tA W d EX es)) (hl : es.length ≤ 1000) : PE X (.List fs pos) (tE W d EX (.lst heap es)) :=
  (pe_lst ha).imp fun σ H Q ⟨β, env, S, hS, hE, hp⟩ => by
    unfold ev at hp
    refine ⟨β, env, S, hS, hE, (PostA.lens (Q := fun _ _ => True) hp).mono fun xs H1 ⟨β1, S1, vs, hn, x1, s1, r1, hp1⟩ => ?_⟩
    exact hp1.newLst s1 r1 (by unfold line; omega)
end
end Mi
/-! MiC4: operators by values. -/
namespace Mi
open PySem PySem.Spec PyProof.Rows L2

/-! ### () + t -/
theorem tuple_addW0 (l b : Addr) (items items2 : Array Value) (n n2 : Nat) (dd dd2 : Option Addr) (sl sl2 : Array (Option Value)) (hc0 : items.isEmpty = true) :
    Meets (Builtin.«tuple.__add__» ⟨[.ref l, .ref b], []⟩) (fun _ R s => s.heap.get? l = some { cls := .type "tuple", dict := dd, data := .seq items n, slots := sl } ∧ s.heap.get? b = some { cls := .type "tuple", dict := dd2, data := .seq items2 n2, slots := sl2 } ∧ R (.ok (.ret (Value.ref b))) s) :=
  .of_wp fun prog w A R s h => by
    obtain ⟨hp, g, d, tk, os⟩ := s
    obtain ⟨hl, hb, h⟩ := h
    have f2 := AutoSeq1.sub_tuple_tuple
    wp_walk using AutoSeq1.wpAny_loadPart' hl, AutoSeq1.wpAny_loadPart' hb
    exact ⟨_, rfl, h⟩
theorem op_catT0 {X : Cx} : OpR X (binaryOp .Add) (fun x y H Q => ∃ a b ys, x = .ref a ∧ y = .ref b ∧ SqT X.K H a [] ∧ SqT X.K H b ys ∧ Q (.ref b) H) := by
  intro pins s σ H x y v u Q I rx ry h
  obtain ⟨a, b, ys, rfl, rfl, ha, hb, q⟩ := h
  cases rx
  cases ry
  obtain ⟨its, r1, p1, _⟩ := I.tuple ha
  obtain ⟨its2, r2, p2, _⟩ := I.tuple hb
  cases r1
  obtain ⟨⟨cls, dd, data, sl⟩, ho, hc, n, hd⟩ := id p1
  obtain ⟨⟨cls2, dd2, data2, sl2⟩, ho2, hc2, n2, hd2⟩ := id p2
  simp only at hc hd hc2 hd2
  subst hc hd hc2 hd2
  exact concat_meets ⟨_, ho, rfl⟩ ⟨_, ho2, rfl⟩ noFill_tuple_add seq_tuple_add PySem.F.slot_tuple_add PySem.F.entry_tuple_add (PySem.F.args_tuple_add_2 _ _)
    (tuple_addW0 a b _ its2.toArray n n2 dd dd2 sl sl2 rfl) ⟨ho, ho2, ⟨.ref b, H, I, rfl, q⟩⟩

/-- the answer of an operator, as a reading -/
def rOp (W : Wd) (EX : XK) (f : T → T → Store → Res T) : R2 := fun x y H Q => ∃ β S a b, SR W.K β H S ∧ Rep W.K β H a x ∧ Rep W.K β H b y ∧ PostE W EX β H (f a b S) Q
theorem mul_str2 {prog : Program} {w : World} {A : Around} {E : Value → Shared → Prop} {s : Shared} {x : Str} {t u : Tok} {Q : Value → Shared → Prop} (hl : x.length ≤ 1000)
    (h : ∀ t' k, Q (.str (x ++ x) t') { s with toks := k }) : wpAny (model prog w) A (binaryOp .Mult (.str x t) (.int 2 u)) Q E s := by
  refine PySem.P.mul_str (by decide) (fun _ _ => by omega) (fun _ _ => ?_) ?_
  · show decide (x.length * 2 > sizeLine) = false
    exact decide_eq_false (by rw [sizeLine_eq]; omega)
  · rw [if_neg (by decide)]
    by_cases h0 : ((2 : Int) == 1 || x.length == 0) = true
    · rw [if_pos h0]
      have hx : x.length = 0 := by simpa using h0
      have e : x ++ x = x := by
        obtain ⟨c⟩ := x
        have hc : c = #[] := by simpa [Str.length] using hx
        subst hc
        rfl
      have := h t s.toks
      rw [e] at this
      exact this
    · rw [if_neg h0]
      have e : (List.replicate (2 : Int).toNat x.cps).foldl (· ++ ·) #[] = x.cps ++ x.cps := by
        show (#[] ++ x.cps) ++ x.cps = x.cps ++ x.cps
        rw [Array.empty_append]
      rw [e]
      refine ⟨?_, h _ _⟩
      show (x.cps ++ x.cps).size ≤ sizeLine
      rw [Array.size_append, sizeLine_eq]
      have : x.cps.size ≤ 1000 := hl
      omega
theorem op_bin {W : Wd} {d : Nat} {EX : XK} {X : Cx} {Z : Sc} (g : Good W d X Z EX) {heap : Bool} {op : BOp} : OpR X (binaryOp (opOf op)) (rOp W EX (binOp heap op)) := by
  intro pins s σ H x y v u Q I rx ry ⟨β, S, a, b, hS, ra, rb, hp⟩
  unfold binOp at hp
  split at hp
  · -- ints
    rename_i i j h1 h2
    rw [view_int h1] at ra
    rw [view_int h2] at rb
    exact op_add pins s σ H x y v u Q I rx ry ⟨i, j, ra, rb, hp.here (x := .int (i + j)) hS rfl⟩
  · rename_i s1 t1 h1 h2
    rw [view_str h1] at ra
    rw [view_str h2] at rb
    split at hp
    · rename_i hl
      refine op_add_str pins s σ H x y v u Q I rx ry ⟨_, _, ra.1, rb.1, by rw [toStr_length, toStr_length]; exact le_line hl, ?_⟩
      rw [toStr_append]
      exact hp.here (x := .str (toStr (s1 ++ t1))) hS ⟨rfl, by rw [List.length_append]; exact hl⟩
    · exact hp.elim
  · rename_i xs ys h1 h2
    rw [view_tup h1] at ra
    rw [view_tup h2] at rb
    split at hp
    · rename_i hl
      obtain ⟨l1, a1, vs1, e1, q1, n1, r1⟩ := ra
      obtain ⟨l2, a2, vs2, e2, q2, n2, r2⟩ := rb
      by_cases hx : vs1 = []
      · subst hx
        have hxs : xs = [] := List.eq_nil_of_length_eq_zero r1.length
        subst hxs
        refine op_catT0 pins s σ H x y v u Q I rx ry ⟨a1, a2, vs2, e1, e2, .of q1, .of q2, ?_⟩
        exact hp.here hS ⟨l2, a2, vs2, rfl, q2, n2, r2⟩
      · refine op_catT pins s σ H x y v u Q I rx ry ⟨a1, a2, vs1, vs2, e1, e2, .of q1, .of q2, hx, by rw [← r1.length, ← r2.length]; exact le_line hl, fun hy => ?_, fun hy => ?_⟩
        · subst hy
          have hys : ys = [] := List.eq_nil_of_length_eq_zero r2.length
          subst hys
          rw [List.append_nil] at hp
          exact hp.here hS ⟨l1, a1, vs1, rfl, q1, n1, r1⟩
        · exact (hp.newTup hS (r1.append r2) (by rw [List.length_append]; exact hl)).2
    · exact hp.elim
  · rename_i xs ys h1 h2
    split at hp
    · rename_i hl
      obtain ⟨l1, a1, vs1, e1, q1, r1⟩ := view_lst hS ra h1
      obtain ⟨l2, a2, vs2, e2, q2, r2⟩ := view_lst hS rb h2
      exact op_cat pins s σ H x y v u Q I rx ry ⟨a1, a2, vs1, vs2, e1, e2, q1, q2, by rw [← r1.length, ← r2.length]; exact le_line hl, (hp.newLst hS (r1.append r2) (by rw [List.length_append]; exact hl)).2⟩
    · exact hp.elim
  · rename_i i j h1 h2
    rw [view_int h1] at ra
    rw [view_int h2] at rb
    exact op_sub pins s σ H x y v u Q I rx ry ⟨i, j, ra, rb, hp.here (x := .int (i - j)) hS rfl⟩
  · rename_i i j h1 h2
    rw [view_int h1] at ra
    rw [view_int h2] at rb
    split at hp
    · rename_i hl
      exact op_mul pins s σ H x y v u Q I rx ry ⟨i, j, ra, rb, by unfold CMul; omega, hp.here (x := .int (i * j)) hS rfl⟩
    · exact hp.elim
  · rename_i xs h1 h2
    rw [view_int h2] at rb
    split at hp
    · rename_i hl
      obtain ⟨l1, a1, vs1, e1, q1, r1⟩ := view_lst hS ra h1
      have hv := r1.length
      refine op_rep pins s σ H x y v u Q I rx ry ⟨a1, 2, vs1, e1, rb, q1, by decide, by decide, ?_, ?_⟩
      · have := sizeLine_eq
        show vs1.length * 2 ≤ sizeLine
        omega
      · have := (hp.newLst hS (r1.append r1) (by rw [List.length_append]; unfold line; omega)).2
        simpa [List.replicate] using this
    · exact hp.elim
  · rename_i x0 xs h1 h2
    rw [view_tup h1] at ra
    rw [view_int h2] at rb
    split at hp
    · rename_i hl
      obtain ⟨l1, a1, vs1, e1, q1, n1, r1⟩ := ra
      have hv := r1.length
      rw [List.length_cons] at hv
      refine op_repT pins s σ H x y v u Q I rx ry ⟨a1, 2, vs1, e1, rb, .of q1, fun e => by rw [e] at hv; simp at hv, by decide, by decide, by omega, ?_⟩
      have := (hp.newTup hS (r1.append r1) (by rw [List.length_append, List.length_cons]; unfold line; omega)).2
      simpa [List.replicate] using this
    · exact hp.elim
  · rename_i s1 h1 h2
    rw [view_str h1] at ra
    rw [view_int h2] at rb
    split at hp
    · rename_i hl
      rw [ra.1] at rx
      rw [rb] at ry
      obtain ⟨t, rfl⟩ := rx
      obtain ⟨t', rfl⟩ := ry
      refine mul_str2 (by rw [toStr_length]; exact hl) fun t2 k => ⟨.str (toStr (s1 ++ s1)), H, I.tok _, ⟨t2, by rw [toStr_append]⟩, ?_⟩
      exact hp.here hS ⟨rfl, by rw [List.length_append]; unfold line; omega⟩
    · exact hp.elim
  · rename_i i j h1 h2
    rw [view_int h1] at ra
    rw [view_int h2] at rb
    split at hp
    · rename_i hl
      exact op_mod pins s σ H x y v u Q I rx ry ⟨i, j, ra, rb, hl, hp.here (x := .int (i % j)) hS rfl⟩
    · exact hp.elim
  · rename_i i j h1 h2
    rw [view_int h1] at ra
    rw [view_int h2] at rb
    split at hp
    · rename_i hl
      exact op_fdiv pins s σ H x y v u Q I rx ry ⟨i, j, ra, rb, hl, hp.here (x := .int (i / j)) hS rfl⟩
    · exact hp.elim
  · exact hp.elim
end Mi
/-! MiC5: comparisons by values. -/
namespace Mi
open PySem PySem.Spec PyProof.Rows L2

mutual
def pd : T → PyData
  | .non => .none
  | .bl b => .bool b
  | .int i => .int i
  | .str s => .str (toStr s)
  | .tup xs => .tuple (pds xs)
  | .lst xs => .list (pds xs)
  | .scr _ => .none
  | .ref _ => .none
def pds : List T → List PyData
  | [] => []
  | x :: xs => pd x :: pds xs
end
theorem codes_inj : ∀ {s t : List Char}, codes s = codes t → s = t
  | [], [], _ => rfl
  | [], _ :: _, h => by simp [codes] at h
  | _ :: _, [], h => by simp [codes] at h
  | a :: s, b :: t, h => by
    simp only [codes, List.map_cons, List.cons.injEq] at h
    obtain ⟨h1, h2⟩ := h
    have e : a = b := Char.toNat_inj.mp h1
    rw [e, codes_inj (s := s) (t := t) h2]
theorem toStr_inj {s t : List Char} (h : toStr s = toStr t) : s = t := by
  unfold toStr at h
  injection h with h
  exact codes_inj (by simpa using congrArg Array.toList h)
theorem toStr_beq (s t : List Char) : (toStr s == toStr t) = (s == t) := by
  rw [Bool.eq_iff_iff]
  simp only [beq_iff_eq]
  exact ⟨toStr_inj, fun h => by rw [h]⟩
mutual
theorem pd_eqv : ∀ (a b : T), a.data = true → b.data = true → PyData.eqv (pd a) (pd b) = eqT a b
  | .non, b, _, hb => by cases b <;> simp_all [pd, PyData.eqv, eqT, T.data]
  | .bl _, b, _, hb => by cases b <;> simp_all [pd, PyData.eqv, eqT, T.data]
  | .int _, b, _, hb => by cases b <;> simp_all [pd, PyData.eqv, eqT, T.data]
  | .str s, b, _, hb => by
    cases b with
    | str t => simp only [pd, PyData.eqv, eqT]; exact toStr_beq s t
    | _ => simp_all [pd, PyData.eqv, eqT, T.data]
  | .tup xs, b, ha, hb => by
    cases b with
    | tup ys => simp only [pd, PyData.eqv, eqT]; exact pds_eqv xs ys (by simpa [T.data] using ha) (by simpa [T.data] using hb)
    | _ => simp_all [pd, PyData.eqv, eqT, T.data]
  | .lst xs, b, ha, hb => by
    cases b with
    | lst ys => simp only [pd, PyData.eqv, eqT]; exact pds_eqv xs ys (by simpa [T.data] using ha) (by simpa [T.data] using hb)
    | _ => simp_all [pd, PyData.eqv, eqT, T.data]
  | .scr _, _, ha, _ => by simp [T.data] at ha
  | .ref _, _, ha, _ => by simp [T.data] at ha
theorem pds_eqv : ∀ (a b : List T), T.datas a = true → T.datas b = true → PyData.eqvAll (pds a) (pds b) = eqTs a b
  | [], b, _, _ => by cases b <;> simp [pds, PyData.eqvAll, eqTs]
  | x :: xs, [], _, _ => by simp [pds, PyData.eqvAll, eqTs]
  | x :: xs, y :: ys, ha, hb => by
    simp only [T.datas, Bool.and_eq_true] at ha hb
    simp only [pds, PyData.eqvAll, eqTs, pd_eqv x y ha.1 hb.1, pds_eqv xs ys ha.2 hb.2]
end
mutual
theorem pd_depth : ∀ (a : T), (pd a).depth = a.depth
  | .non => rfl
  | .bl _ => rfl
  | .int _ => rfl
  | .str _ => rfl
  | .tup xs => by simp only [pd, PyData.depth, T.depth, pds_depth xs]
  | .lst xs => by simp only [pd, PyData.depth, T.depth, pds_depth xs]
  | .scr _ => rfl
  | .ref _ => rfl
theorem pds_depth : ∀ (a : List T), PyData.depthAll (pds a) = T.depths a
  | [] => rfl
  | x :: xs => by simp only [pds, PyData.depthAll, T.depths, pd_depth x, pds_depth xs]
end
theorem strOk_toStr (s : List Char) : PyData.strOk (toStr s) = true := by
  unfold PyData.strOk toStr codes
  rw [← Array.all_toList]
  simp only [List.all_map, List.all_eq_true, Function.comp]
  intro c _
  have : c.toNat < 1114112 := by
    have h := c.valid
    unfold UInt32.isValidChar Nat.isValidChar at h
    show c.val.toNat < 1114112
    omega
  simpa using this
mutual
theorem pd_lay : ∀ (a : T), PyData.canLay0 (pd a) = true
  | .non => by simp [pd, PyData.canLay0]
  | .bl _ => by simp [pd, PyData.canLay0]
  | .int _ => by simp [pd, PyData.canLay0]
  | .str s => by simp only [pd, PyData.canLay0]; exact strOk_toStr s
  | .tup xs => by simp only [pd, PyData.canLay0]; exact pds_lay xs
  | .lst xs => by simp only [pd, PyData.canLay0]; exact pds_lay xs
  | .scr _ => by simp [pd, PyData.canLay0]
  | .ref _ => by simp [pd, PyData.canLay0]
theorem pds_lay : ∀ (a : List T), PyData.canLayAll0 (pds a) = true
  | [] => by simp [pds, PyData.canLayAll0]
  | x :: xs => by simp only [pds, PyData.canLayAll0, pd_lay x, pds_lay xs, Bool.and_self]
end
section
variable {K : PySem.W.Frag} {β : Be} {H : Hp}
mutual
theorem rep_dp : ∀ (t : T) (v : V), t.data = true → Rep K β H t v → Dp K H v (pd t)
  | .non, _, _, h => by rw [show _ = V.non from h]; exact .non
  | .bl b, _, _, h => by rw [show _ = V.bl b from h]; exact .bl b
  | .int i, _, _, h => by rw [show _ = V.int i from h]; exact .int i
  | .str s, _, _, h => by rw [h.1]; exact .str _
  | .tup xs, _, hd, ⟨_, a, vs, e, q, _, r⟩ => by rw [e]; exact .tup (.of q) (reps_dp xs vs (by simpa [T.data] using hd) r)
  | .lst xs, _, hd, ⟨_, a, vs, e, q, _, r⟩ => by rw [e]; exact .lst (.of q) (reps_dp xs vs (by simpa [T.data] using hd) r)
  | .scr _, _, hd, _ => by simp [T.data] at hd
  | .ref _, _, hd, _ => by simp [T.data] at hd
theorem reps_dp : ∀ (ts : List T) (vs : List V), T.datas ts = true → Reps K β H ts vs → DpAll K H vs (pds ts)
  | [], _, _, h => by rw [show _ = [] from h]; exact .nil
  | t :: ts, _, hd, ⟨v, r, e, h, hs⟩ => by
    simp only [T.datas, Bool.and_eq_true] at hd
    rw [e]
    exact .cons (rep_dp t v hd.1 h) (reps_dp ts r hd.2 hs)
end
theorem view_dp {S : Store} {t : T} {v : V} (s : SR K β H S) (r : Rep K β H t v) (hd : (view S t).data = true) : Dp K H v (pd (view S t)) := by
  unfold view at hd ⊢
  split at hd
  · rename_i n
    split at hd
    · rename_i xs hx
      obtain ⟨a, rfl, ha⟩ := r
      obtain ⟨a', ha', hl, vs, hv, hr⟩ := s.at hx
      rw [ha] at ha'
      cases ha'
      exact .lst (.of hv) (reps_dp xs vs (by simpa [T.data] using hd) hr)
    · simp [T.data] at hd
  · exact rep_dp _ _ hd r
end

def rCmp (W : Wd) (EX : XK) (f : T → T → Store → Option Bool) : R2 := fun x y H Q => ∃ β S a b, SR W.K β H S ∧ Rep W.K β H a x ∧ Rep W.K β H b y ∧ PostE W EX β H (optR (f a b S) T.bl S) Q
theorem room_eq {d : Nat} {A : Around} {n : Nat} (r : Room (lvl d) A) (h : n ≤ deepest) : A.units + 1 + n < cLine := by
  have := r.un
  unfold lvl at this
  unfold deepest at h
  omega
section
variable {W : Wd} {d : Nat} {EX : XK} {X : Cx} {Z : Sc} (g : Good W d X Z EX)
include g
theorem cmp_eq {neg : Bool} : OpR X (compareOp (if neg then .NotEq else .Eq)) (fun x y H Q => ∃ β S a b, SR W.K β H S ∧ Rep W.K β H a x ∧ Rep W.K β H b y ∧ eqOk (view S a) (view S b) = true ∧ Q (.bl (if neg then !eqT (view S a) (view S b) else eqT (view S a) (view S b))) H) := by
  intro pins s σ H x y v u Q I rx ry ⟨β, S, a, b, hS, ra, rb, hk, q⟩
  unfold eqOk at hk
  simp only [Bool.and_eq_true, decide_eq_true_eq] at hk
  obtain ⟨⟨h1, h2⟩, h3⟩ := hk
  have d1 := view_dp hS ra h1
  have d2 := view_dp hS rb h2
  rw [← g.K] at d1 d2
  obtain ⟨as, r1⟩ := Dp.reads I _ x v d1 rx
  obtain ⟨bs, r2⟩ := Dp.reads I _ y u d2 ry
  have hr : X.A.units + min (pd (view S a)).depth (pd (view S b)).depth < cLine := by
    have := room_eq g.room h3
    rw [pd_depth, pd_depth]
    omega
  cases neg with
  | true => exact SeqAt.compareNe_reads r1 r2 (pd_lay _) (pd_lay _) hr ⟨.bl _, H, I, rfl, by rw [pd_eqv _ _ h1 h2]; exact q⟩
  | false => exact SeqAt.compareEq_reads r1 r2 (pd_lay _) (pd_lay _) hr ⟨.bl _, H, I, rfl, by rw [pd_eqv _ _ h1 h2]; exact q⟩

/-- is x among the items of a list, of a tuple -/
theorem in_seq {neg : Bool} : OpR X (compareOp (if neg then .NotIn else .In)) (fun x y H Q => ∃ β S a b xs, SR W.K β H S ∧ Rep W.K β H a x ∧ Rep W.K β H b y ∧ (view S b = .tup xs ∨ view S b = .lst xs) ∧ inOk a xs = true ∧
    Q (.bl (if neg then !(xs.any fun z => eqT z a) else xs.any fun z => eqT z a)) H) := by
  intro pins s σ H x y v u Q I rx ry ⟨β, S, a, b, xs, hS, ra, rb, hv, hk, q⟩
  unfold inOk at hk
  simp only [Bool.and_eq_true, decide_eq_true_eq] at hk
  obtain ⟨⟨h1, h2⟩, h3⟩ := hk
  have d1 := rep_dp a x h1 ra
  have hd : (view S b).data = true := by rcases hv with e | e <;> rw [e] <;> simpa [T.data] using h2
  have d2 := view_dp hS rb hd
  rw [← g.K] at d1 d2
  obtain ⟨as, r1⟩ := Dp.reads I _ x v d1 rx
  obtain ⟨bs, r2⟩ := Dp.reads I _ y u d2 ry
  have hr : X.A.units + 1 + min (PyData.depthAll (pds xs)) (pd a).depth < cLine := by
    have := room_eq g.room h3
    rw [pd_depth, pds_depth]
    omega
  have he : ∀ ys : List T, T.datas ys = true → ((pds ys).any fun z => PyData.eqv z (pd a)) = ys.any fun z => eqT z a := by
    intro ys
    induction ys with
    | nil => intro _; rfl
    | cons z r ih =>
      intro hy
      simp only [T.datas, Bool.and_eq_true] at hy
      simp only [pds, List.any_cons, pd_eqv z a hy.1 h1, ih hy.2]
  rcases hv with e | e
  · rw [e] at r2
    simp only [pd] at r2
    cases neg with
    | true => exact SeqAt.notIn_tuple_reads r2 r1 (pds_lay _) (pd_lay _) hr ⟨.bl _, H, I, rfl, by rw [he xs h2]; exact q⟩
    | false => exact SeqAt.in_tuple_reads r2 r1 (pds_lay _) (pd_lay _) hr ⟨.bl _, H, I, rfl, by rw [he xs h2]; exact q⟩
  · rw [e] at r2
    simp only [pd] at r2
    cases neg with
    | true => exact SeqAt.notIn_list_reads r2 r1 (pds_lay _) (pd_lay _) hr ⟨.bl _, H, I, rfl, by rw [he xs h2]; exact q⟩
    | false => exact SeqAt.in_list_reads r2 r1 (pds_lay _) (pd_lay _) hr ⟨.bl _, H, I, rfl, by rw [he xs h2]; exact q⟩
end

theorem toStr_one (c : Char) : toStr [c] = ⟨#[c.toNat]⟩ := rfl
theorem in_sign (c : Char) (t : List Char) : decide (c.toNat ∈ (toStr t).cps.toList) = decide (c ∈ t) := by
  have : (c.toNat ∈ (toStr t).cps.toList) ↔ c ∈ t := by
    simp only [toStr, codes, List.mem_map]
    exact ⟨fun ⟨x, h1, h2⟩ => Char.toNat_inj.mp h2 ▸ h1, fun h => ⟨c, h, rfl⟩⟩
  simp [this]

theorem is_non {K : PySem.W.Frag} {β : Be} {H : Hp} {a : T} {x : V} (r : Rep K β H a x) : decide (x = .non) = decide (a = .non) := by
  cases a with
  | non => rw [show x = .non from r]; rfl
  | bl _ => rw [show x = _ from r]; rfl
  | int _ => rw [show x = _ from r]; rfl
  | str _ => rw [r.1]; rfl
  | tup _ => obtain ⟨_, a, _, e, _⟩ := r; rw [e]; rfl
  | lst _ => obtain ⟨_, a, _, e, _⟩ := r; rw [e]; rfl
  | scr _ => obtain ⟨_, a, e, _⟩ := r; rw [e]; rfl
  | ref _ => obtain ⟨a, e, _⟩ := r; rw [e]; rfl

/-! ### dicts -/
theorem keyOf_inj {a b : T} {k : Key} (h1 : keyOf a = some k) (h2 : keyOf b = some k) : a = b := by
  have e := h1.trans h2.symm
  cases a <;> cases b <;> simp [keyOf] at h1 h2 e
  · rw [e]
  · rw [toStr_inj e]
theorem keyB_of {a : T} (h : keyB a = true) : ∃ k, keyOf a = some k := by
  cases a <;> simp_all [keyB, keyOf]
theorem rep_key {K : PySem.W.Frag} {β : Be} {H : Hp} {a : T} {k : Key} {x : V} (h : keyOf a = some k) (r : Rep K β H a x) : x = kV k := by
  cases a <;> simp [keyOf] at h
  · subst h; exact r
  · subst h; exact r.1
theorem kreps_get {K : PySem.W.Frag} {β : Be} {H : Hp} {a : T} {k : Key} (h : keyOf a = some k) : ∀ {ps : List (T × T)} {ws : List (Key × V)}, KReps K β H ps ws →
    (dget ps a = none ∧ valV ws k = none) ∨ ∃ u v, dget ps a = some u ∧ valV ws k = some v ∧ Rep K β H u v
  | [], _, e => by rw [show _ = [] from e]; exact .inl ⟨rfl, rfl⟩
  | p :: r, _, ⟨k', v, ws', e, hk, h1, h2, hs⟩ => by
    subst e
    by_cases hp : p.1 = a
    · have ek : k' = k := by rw [hp, h] at hk; exact (Option.some.inj hk).symm
      refine .inr ⟨p.2, v, ?_, ?_, h2⟩
      · simp [dget, List.find?_cons, hp]
      · rw [valV_pos ek]
    · have ek : ¬ k' = k := fun e => hp (keyOf_inj hk (by rw [e]; exact h))
      have e1 : dget (p :: r) a = dget r a := by simp [dget, List.find?_cons, hp]
      rw [e1, valV_neg ek]
      exact kreps_get h hs
theorem kreps_any {K : PySem.W.Frag} {β : Be} {H : Hp} {a : T} {k : Key} (h : keyOf a = some k) : ∀ {ps : List (T × T)} {ws : List (Key × V)}, KReps K β H ps ws → (ps.any fun p => decide (p.1 = a)) = ws.any fun kv => decide (kv.1 = k)
  | [], _, e => by rw [show _ = [] from e]; rfl
  | p :: r, _, ⟨k', v, ws', e, hk, h1, h2, hs⟩ => by
    subst e
    rw [List.any_cons, List.any_cons, kreps_any h hs]
    congr 1
    by_cases hp : p.1 = a
    · have ek : k' = k := by rw [hp, h] at hk; exact (Option.some.inj hk).symm
      simp [hp, ek]
    · have ek : ¬ k' = k := fun e => hp (keyOf_inj hk (by rw [e]; exact h))
      simp [hp, ek]
theorem kreps_map {K : PySem.W.Frag} {β : Be} {H : Hp} {a b : T} {k : Key} {y : V} (h : keyOf a = some k) (rb : Rep K β H b y) : ∀ {ps : List (T × T)} {ws : List (Key × V)}, KReps K β H ps ws →
    KReps K β H (ps.map fun p => if p.1 = a then (p.1, b) else p) (ws.map fun kv => if kv.1 = k then (kv.1, y) else kv)
  | [], _, e => by rw [show _ = [] from e]; exact rfl
  | p :: r, _, ⟨k', v, ws', e, hk, h1, h2, hs⟩ => by
    subst e
    rw [List.map_cons, List.map_cons]
    by_cases hp : p.1 = a
    · have ek : k' = k := by rw [hp, h] at hk; exact (Option.some.inj hk).symm
      rw [if_pos hp, if_pos ek]
      exact ⟨k', y, _, rfl, hk, h1, rb, kreps_map h rb hs⟩
    · have ek : ¬ k' = k := fun e => hp (keyOf_inj hk (by rw [e]; exact h))
      rw [if_neg hp, if_neg ek]
      exact ⟨k', v, _, rfl, hk, h1, h2, kreps_map h rb hs⟩
theorem kreps_snoc {K : PySem.W.Frag} {β : Be} {H : Hp} {a b : T} {k : Key} {y : V} (h : keyOf a = some k) (ra : Rep K β H a (kV k)) (rb : Rep K β H b y) : ∀ {ps : List (T × T)} {ws : List (Key × V)}, KReps K β H ps ws →
    KReps K β H (ps ++ [(a, b)]) (ws ++ [(k, y)])
  | [], _, e => by rw [show _ = [] from e]; exact ⟨k, y, [], rfl, h, ra, rb, rfl⟩
  | p :: r, _, ⟨k', v, ws', e, hk, h1, h2, hs⟩ => by
    subst e
    exact ⟨k', v, _, rfl, hk, h1, h2, kreps_snoc h ra rb hs⟩
theorem kreps_put {K : PySem.W.Frag} {β : Be} {H : Hp} {a b : T} {k : Key} {y : V} {ps : List (T × T)} {ws : List (Key × V)} (h : keyOf a = some k) (ra : Rep K β H a (kV k)) (rb : Rep K β H b y) (hs : KReps K β H ps ws) :
    KReps K β H (dput ps a b) (putK ws k y) := by
  unfold dput putK
  rw [kreps_any h hs]
  split
  · exact kreps_map h rb hs
  · exact kreps_snoc h ra rb hs
theorem kreps_len {K : PySem.W.Frag} {β : Be} {H : Hp} : ∀ {ps : List (T × T)} {ws : List (Key × V)}, KReps K β H ps ws → ps.length = ws.length
  | [], _, e => by
    have e' : _ = [] := e
    simp [e']
  | p :: r, _, ⟨k', v, ws', e, hk, h1, h2, hs⟩ => by rw [e, List.length_cons, List.length_cons, kreps_len hs]
theorem dput_len (ps : List (T × T)) (a b : T) : (dput ps a b).length ≤ ps.length + 1 := by
  unfold dput
  split
  · rw [List.length_map]; omega
  · rw [List.length_append]; simp

section
variable {W : Wd} {d : Nat} {EX : XK} {X : Cx} {Z : Sc} (g : Good W d X Z EX)
include g
theorem in_dict {neg : Bool} : OpR X (compareOp (if neg then .NotIn else .In)) (fun x y H Q => ∃ β S a n kvs, SR W.K β H S ∧ Rep W.K β H a x ∧ Rep W.K β H (.ref n) y ∧ S[n]? = some (.dct kvs) ∧ keyB a = true ∧
    Q (.bl (if neg then !(dget kvs a).isSome else (dget kvs a).isSome)) H) := by
  intro pins s σ H x y v u Q I rx ry ⟨β, S, a, n, kvs, hS, ra, ⟨p, e, hb⟩, hn, hk, q⟩
  subst e
  obtain rfl : u = Value.ref p := ry
  obtain ⟨p', hb', hl, ws, hw, hr⟩ := hS.at hn
  rw [hb] at hb'
  cases hb'
  obtain ⟨k, ek⟩ := keyB_of hk
  rw [rep_key ek ra] at rx
  have hu : X.A.units + 1 < cLine := by have := room_eq (n := 0) g.room (Nat.zero_le _); omega
  have eq : (dget kvs a).isSome = (valV ws k).isSome := by
    rcases kreps_get ek hr with ⟨e1, e2⟩ | ⟨_, _, e1, e2, _⟩ <;> rw [e1, e2] <;> rfl
  rw [eq] at q
  cases neg with
  | true => exact d_notIn hu I (DGet.k hw) rx fun s3 I3 => ⟨.bl _, H, I3, rfl, q⟩
  | false => exact d_in hu I (DGet.k hw) rx fun s3 I3 => ⟨.bl _, H, I3, rfl, q⟩

theorem cmp_in {neg : Bool} : OpR X (compareOp (if neg then .NotIn else .In)) (rCmp W EX (fun a b S => if neg then (isIn a b S).map (!·) else isIn a b S)) := by
  intro pins s σ H x y v u Q I rx ry ⟨β, S, a, b, hS, ra, rb, hp⟩
  have key : ∀ k : Bool, isIn a b S = some k → Q (.bl (if neg then !k else k)) H := fun k e => by
    cases neg <;> simp only [e, optR, Option.map, Bool.false_eq_true, if_true, if_false] at hp ⊢ <;> exact hp.here (x := .bl _) hS rfl
  have hne : isIn a b S = none → False := fun e => by
    cases neg <;> simp only [e, optR, Option.map, Bool.false_eq_true, if_true, if_false] at hp <;> exact hp
  unfold isIn at key hne
  cases hv : view S b with
  | str t =>
    rw [view_str hv] at rb
    simp only [hv] at key hne
    split at key
    · rename_i c
      have q := key _ rfl
      rw [← in_sign] at q
      cases neg with
      | true => exact op_notIn_sign pins s σ H x y v u Q I rx ry ⟨c.toNat, toStr t, ra.1, rb.1, q⟩
      | false => exact op_in_sign pins s σ H x y v u Q I rx ry ⟨c.toNat, toStr t, ra.1, rb.1, q⟩
    · rename_i hh
      exact (hne (by simp)).elim
  | tup xs =>
    simp only [hv] at key hne
    by_cases hk : inOk a xs = true
    · simp only [hk, if_true] at key
      exact in_seq g (neg := neg) pins s σ H x y v u Q I rx ry ⟨β, S, a, b, xs, hS, ra, rb, .inl hv, hk, key _ rfl⟩
    · exact (hne (by simp [hk])).elim
  | lst xs =>
    simp only [hv] at key hne
    by_cases hk : inOk a xs = true
    · simp only [hk, if_true] at key
      exact in_seq g (neg := neg) pins s σ H x y v u Q I rx ry ⟨β, S, a, b, xs, hS, ra, rb, .inr hv, hk, key _ rfl⟩
    · exact (hne (by simp [hk])).elim
  | ref n =>
    simp only [hv] at key hne
    have hb : b = .ref n := by
      unfold view at hv
      split at hv
      · split at hv
        · cases hv
        · exact hv
      · exact hv
    rw [hb] at rb
    cases hn : S[n]? with
    | none => exact (hne (by simp [hn])).elim
    | some o =>
      cases o with
      | lst xs => exact (hne (by simp [hn])).elim
      | dct kvs =>
        by_cases hk : keyB a = true
        · simp only [hn, hk, if_true] at key
          exact in_dict g (neg := neg) pins s σ H x y v u Q I rx ry ⟨β, S, a, n, kvs, hS, ra, rb, hn, hk, key _ rfl⟩
        · exact (hne (by simp [hn, hk])).elim
  | _ => exact (hne (by simp [hv])).elim

theorem lt_str_eq (s t : List Char) : decide ((toStr s).cps.toList < (toStr t).cps.toList) = ltS s t := rfl
/-- any comparison -/
theorem op_cmp {op : COp} : OpR X (compareOp (cmpOf op)) (rCmp W EX (cmpOp op)) := by
  intro pins s σ H x y v u Q I rx ry ⟨β, S, a, b, hS, ra, rb, hp⟩
  have key : ∀ k : Bool, cmpOp op a b S = some k → Q (.bl k) H := fun k e => by
    rw [e] at hp
    exact hp.here (x := .bl _) hS rfl
  have hne : cmpOp op a b S = none → False := fun e => by
    rw [e] at hp
    exact hp
  cases op with
  | eq =>
    simp only [cmpOp] at key hne
    by_cases hk : eqOk (view S a) (view S b) = true
    · exact cmp_eq g (neg := false) pins s σ H x y v u Q I rx ry ⟨β, S, a, b, hS, ra, rb, hk, key _ (by rw [if_pos hk]; rfl)⟩
    · exact (hne (by rw [if_neg hk])).elim
  | ne =>
    simp only [cmpOp] at key hne
    by_cases hk : eqOk (view S a) (view S b) = true
    · exact cmp_eq g (neg := true) pins s σ H x y v u Q I rx ry ⟨β, S, a, b, hS, ra, rb, hk, key _ (by rw [if_pos hk]; rfl)⟩
    · exact (hne (by rw [if_neg hk])).elim
  | in_ => exact cmp_in g (neg := false) pins s σ H x y v u Q I rx ry ⟨β, S, a, b, hS, ra, rb, hp⟩
  | nin => exact cmp_in g (neg := true) pins s σ H x y v u Q I rx ry ⟨β, S, a, b, hS, ra, rb, hp⟩
  | lt =>
    simp only [cmpOp] at key hne
    split at key
    · exact op_lt pins s σ H x y v u Q I rx ry ⟨_, _, ra, rb, key _ rfl⟩
    · exact op_lt_str pins s σ H x y v u Q I rx ry ⟨_, _, ra.1, rb.1, key _ rfl⟩
    · exact (hne (by simp)).elim
  | le =>
    simp only [cmpOp] at key hne
    split at key
    · exact op_le pins s σ H x y v u Q I rx ry ⟨_, _, ra, rb, key _ rfl⟩
    · exact op_le_str pins s σ H x y v u Q I rx ry ⟨_, _, ra.1, rb.1, key _ rfl⟩
    · exact (hne (by simp)).elim
  | gt =>
    simp only [cmpOp] at key hne
    split at key
    · exact op_gt pins s σ H x y v u Q I rx ry ⟨_, _, ra, rb, key _ rfl⟩
    · exact op_gt_str pins s σ H x y v u Q I rx ry ⟨_, _, ra.1, rb.1, key _ rfl⟩
    · exact (hne (by simp)).elim
  | ge =>
    simp only [cmpOp] at key hne
    split at key
    · exact op_ge pins s σ H x y v u Q I rx ry ⟨_, _, ra, rb, key _ rfl⟩
    · exact op_ge_str pins s σ H x y v u Q I rx ry ⟨_, _, ra.1, rb.1, key _ rfl⟩
    · exact (hne (by simp)).elim
  | is_ =>
    simp only [cmpOp] at key hne
    split at key
    · exact op_isBl pins s σ H x y v u Q I rx ry ⟨_, _, ra, rb, key _ (by rw [Bool.beq_eq_decide_eq])⟩
    · refine op_isN pins s σ H x y v u Q I rx ry ⟨rb, ?_⟩
      have := key _ rfl
      rw [is_non ra]
      exact this
    · exact (hne (by simp)).elim
  | isn =>
    simp only [cmpOp] at key hne
    split at key
    · exact op_notBl pins s σ H x y v u Q I rx ry ⟨_, _, ra, rb, key _ (by rw [Bool.beq_eq_decide_eq])⟩
    · refine op_notN pins s σ H x y v u Q I rx ry ⟨rb, ?_⟩
      have := key _ rfl
      rw [is_non ra]
      exact this
    · exact (hne (by simp)).elim
end
end Mi
/-! MiC6: truth; items, slices. -/
namespace Mi
open PySem PySem.Spec PyProof.Rows L2

section
variable {K : PySem.W.Frag} {β : Be} {H : Hp}
theorem isEmpty_reps {ts : List T} {vs : List V} (r : Reps K β H ts vs) : (!ts.isEmpty) = !vs.isEmpty := by
  cases ts with
  | nil => rw [show vs = [] from r]; rfl
  | cons t ts => obtain ⟨v, r', e, _⟩ := r; rw [e]; rfl
theorem isEmpty_kreps {ts : List (T × T)} {vs : List (Key × V)} (r : KReps K β H ts vs) : (!ts.isEmpty) = !vs.isEmpty := by
  cases ts with
  | nil => rw [show vs = [] from r]; rfl
  | cons t ts => obtain ⟨k, v, r', e, _⟩ := r; rw [e]; rfl
theorem tru_of {S : Store} {t : T} {x : V} {k : Bool} (s : SR K β H S) (r : Rep K β H t x) (e : truthy S t = some k) : TruV K x H k := by
  cases t with
  | non => rw [show x = _ from r]; exact (Option.some.inj e).symm
  | bl b => rw [show x = _ from r]; exact (Option.some.inj e).symm
  | int i => rw [show x = _ from r]; exact (Option.some.inj e).symm
  | str c =>
    rw [r.1]
    refine ⟨by rw [toStr_length]; exact le_line r.2, ?_⟩
    rw [toStr_length, ← Option.some.inj e]
    cases c with
    | nil => rfl
    | cons a b => simp; omega
  | tup ts =>
    obtain ⟨_, a, vs, e1, q, _, rr⟩ := r
    rw [e1]
    exact .inr (.inl ⟨vs, .of q, by rw [← isEmpty_reps rr]; exact (Option.some.inj e).symm⟩)
  | lst ts =>
    obtain ⟨_, a, vs, e1, q, _, rr⟩ := r
    rw [e1]
    exact .inl ⟨vs, .of q, by rw [← isEmpty_reps rr]; exact (Option.some.inj e).symm⟩
  | scr _ => cases e
  | ref n =>
    obtain ⟨a, rfl, ha⟩ := r
    unfold truthy at e
    simp only at e
    cases hn : S[n]? with
    | none => rw [hn] at e; cases e
    | some o =>
      obtain ⟨a', ha', ho⟩ := s.at hn
      rw [ha] at ha'
      cases ha'
      cases o with
      | lst ts =>
        rw [hn] at e
        obtain ⟨_, vs, q, rr⟩ := ho
        exact .inl ⟨vs, .of q, by rw [← isEmpty_reps rr]; exact (Option.some.inj e).symm⟩
      | dct kvs =>
        rw [hn] at e
        obtain ⟨_, vs, q, rr⟩ := ho
        exact .inr (.inr ⟨vs, q, by rw [← isEmpty_kreps rr]; exact (Option.some.inj e).symm⟩)
end

/-! ### items -/
theorem ixN_lt {n : Nat} {i : Int} {j : Nat} (h : ixN n i = some j) : j < n := (ixN_seq h).2.1
theorem atI_reps {K : PySem.W.Frag} {β : Be} {H : Hp} {ts : List T} {vs : List V} {i : Int} {t : T} (r : Reps K β H ts vs) (e : atI ts i = some t) : ∃ v, atI vs i = some v ∧ Rep K β H t v := by
  unfold atI at e ⊢
  rw [r.length] at e
  cases h : ixN vs.length i with
  | none => rw [h] at e; cases e
  | some j =>
    rw [h] at e
    obtain ⟨v, h1, h2⟩ := r.get (i := j) (t := t) (by simpa using e)
    exact ⟨v, by simpa using h1, h2⟩
theorem atI_map {α γ : Type} (f : α → γ) (xs : List α) (i : Int) : atI (xs.map f) i = (atI xs i).map f := by
  unfold atI
  rw [List.length_map]
  cases ixN xs.length i with
  | none => rfl
  | some j => simp
theorem ix_dictI {X : Cx} (hu : X.A.units + 1 < cLine) : IxR X (fun x y H Q => ∃ a v, x = .ref a ∧ DGet H a y (some v) ∧ Q v H) := by
  intro value slice pins s σ H x y v u Q I rx ry ⟨a, w, e, g, q⟩ hs
  subst e
  obtain rfl : v = Value.ref a := rx
  exact tail_any (ops := [.ref a, u]) (dict_typeIs I g) PySem.F.slot_dict_getitem.lookup (d_getItem hu I g ry fun w' s3 I3 rw' => ⟨w, H, I3, rw', q⟩) hs
section
variable {W : Wd} {d : Nat} {EX : XK} {X : Cx} {Z : Sc} (g : Good W d X Z EX)
include g
theorem ix_item : IxR X (fun x y H Q => ∃ β S a b, SR W.K β H S ∧ Rep W.K β H a x ∧ Rep W.K β H b y ∧ PostE W EX β H (optR (item a b S) id S) Q) := by
  intro value slice pins s σ H x y v u Q I rx ry ⟨β, S, a, b, hS, ra, rb, hp⟩ hs
  have key : ∀ k : T, item a b S = some k → ∀ w, Rep W.K β H k w → Q w H := fun k e w r => by
    rw [e] at hp
    exact hp.here hS r
  have hne : item a b S = none → False := fun e => by
    rw [e] at hp
    exact hp
  unfold item at key hne
  split at key
  · rename_i xs k hv
    rw [view_tup hv] at ra
    obtain ⟨_, p, vs, e1, q, _, rr⟩ := ra
    cases ht : atI xs k with
    | none => exact (hne (by simp [hv, ht])).elim
    | some t =>
      obtain ⟨w, h1, h2⟩ := atI_reps rr ht
      exact ix_tup value slice pins s σ H x y v u Q I rx ry ⟨p, vs, k, w, e1, rb, .of q, h1, key t ht w h2⟩ hs
  · rename_i xs k hv
    obtain ⟨_, p, vs, e1, q, rr⟩ := view_lst hS ra hv
    cases ht : atI xs k with
    | none => exact (hne (by simp [hv, ht])).elim
    | some t =>
      obtain ⟨w, h1, h2⟩ := atI_reps rr ht
      exact ix_list value slice pins s σ H x y v u Q I rx ry ⟨p, vs, k, w, e1, rb, .of q, h1, key t ht w h2⟩ hs
  · rename_i ns k hv
    rw [view_scr hv] at ra
    obtain ⟨_, p, e1, q⟩ := ra
    have hq : SqL X.K H p (ns.map V.int) := by
      rw [g.K]
      rcases q with ⟨q, _⟩ | q
      · exact .inl q
      · exact .inr q
    cases ht : atI ns k with
    | none => exact (hne (by simp [hv, ht])).elim
    | some t => exact ix_list value slice pins s σ H x y v u Q I rx ry ⟨p, ns.map V.int, k, .int t, e1, rb, hq, by rw [atI_map, ht]; rfl, key (.int t) (by simp [ht]) _ rfl⟩ hs
  · rename_i c k hv
    rw [view_str hv] at ra
    cases ht : atI c k with
    | none => exact (hne (by simp [hv, ht])).elim
    | some t =>
      refine ix_str value slice pins s σ H x y v u Q I rx ry ⟨toStr c, k, t.toNat, ra.1, rb, by rw [toStr_length]; exact le_line ra.2, ?_, ?_⟩ hs
      · show atI (codes c) k = _
        unfold codes
        rw [atI_map, ht]; rfl
      · exact key (.str [t]) (by simp [ht]) _ ⟨rfl, by unfold line; simp⟩
  · rename_i b x1 x2 n hv
    have hb : a = .ref n := by
      unfold view at hv
      split at hv
      · split at hv
        · cases hv
        · exact hv
      · exact hv
    rw [hb] at ra
    obtain ⟨p, e1, hp1⟩ := ra
    cases hn : S[n]? with
    | none => exact (hne (by simp [hv, hn])).elim
    | some o =>
      cases o with
      | lst xs => exact (hne (by simp [hv, hn])).elim
      | dct kvs =>
        by_cases hk : keyB b = true
        · obtain ⟨p', hp', hl, ws, hw, hr⟩ := hS.at hn
          rw [hp1] at hp'
          cases hp'
          obtain ⟨k, ek⟩ := keyB_of hk
          rcases kreps_get ek hr with ⟨e2, _⟩ | ⟨t, w, e2, e3, e4⟩
          · exact (hne (by simp [hv, hn, hk, e2])).elim
          · refine ix_dictI (by have := room_eq (n := 0) g.room (Nat.zero_le _); omega) value slice pins s σ H x y v u Q I rx ry ⟨p, w, e1, ?_, key t (by simp [hn, hk, e2]) w e4⟩ hs
            have := DGet.k (k := k) hw
            rw [rep_key ek rb, ← e3]
            exact this
        · exact (hne (by simp [hv, hn, hk])).elim
  · rename_i h1 h2 h3 h4 h5
    exact (hne (by simp)).elim
end
/-! ### slices -/
theorem cut_reps {K : PySem.W.Frag} {β : Be} {H : Hp} {ts : List T} {vs : List V} {lo hi : Option Int} (r : Reps K β H ts vs) : Reps K β H (cut ts lo hi) (cutV vs lo hi) := by
  unfold cut cutV
  rw [r.length]
  exact (r.drop _).take _
theorem cut_le {α : Type} (xs : List α) (lo hi : Option Int) : (cut xs lo hi).length ≤ xs.length := by
  unfold cut
  rw [List.length_take, List.length_drop]
  omega
theorem cut_whole {α : Type} (xs : List α) (lo hi : Option Int) (h1 : HT.sIx xs.length 0 lo = 0) (h2 : HT.sIx xs.length xs.length hi = xs.length) : cut xs lo hi = xs := by
  unfold cut
  rw [h1, h2]
  simp
theorem cut_str (c : List Char) (lo hi : Option Int) : cutS (toStr c) lo hi = toStr (cut c lo hi) := by
  unfold cutS cut toStr
  simp [codes, Str.length, List.map_take, List.map_drop]
section
variable {W : Wd} {d : Nat} {EX : XK} {X : Cx} {Z : Sc} (g : Good W d X Z EX)
include g
theorem sl_any : SlR X (fun x lo hi H Q => ∃ β S a, SR W.K β H S ∧ Rep W.K β H a x ∧ PostE W EX β H (optR (sliceOf a lo hi S) id S) Q) := by
  intro pins s σ H x v vl vu lo hi sl Q I rx hs pl pu ⟨β, S, a, hS, ra, hp⟩
  cases hv : view S a with
  | tup xs =>
    simp only [sliceOf, hv, optR, id] at hp
    rw [view_tup hv] at ra
    obtain ⟨hz, p, vs, e1, q, n, rr⟩ := ra
    refine sl_tupA pins s σ H x v vl vu lo hi sl Q I rx hs pl pu ⟨p, vs, e1, .of q, fun ⟨w1, w2⟩ => ?_, fun _ => ?_⟩
    · rw [cut_whole xs lo hi (by rw [rr.length]; exact w1) (by rw [rr.length]; exact w2)] at hp
      exact hp.here hS ⟨hz, p, vs, rfl, q, n, rr⟩
    · exact (hp.newTup hS (cut_reps rr) (Nat.le_trans (cut_le _ _ _) hz)).2
  | lst xs =>
    simp only [sliceOf, hv, optR, id] at hp
    obtain ⟨hz, p, vs, e1, q, rr⟩ := view_lst hS ra hv
    exact sl_list pins s σ H x v vl vu lo hi sl Q I rx hs pl pu ⟨p, vs, e1, .of q, (PostE.newLst (heap := false) hp hS (cut_reps rr) (Nat.le_trans (cut_le _ _ _) hz)).2⟩
  | str c =>
    simp only [sliceOf, hv, optR, id] at hp
    rw [view_str hv] at ra
    refine sl_str pins s σ H x v vl vu lo hi sl Q I rx hs pl pu ⟨toStr c, ra.1, by rw [toStr_length]; exact le_line ra.2, ?_⟩
    rw [cut_str]
    exact hp.here hS ⟨rfl, Nat.le_trans (cut_le _ _ _) ra.2⟩
  | _ => simp only [sliceOf, hv, optR] at hp; exact hp.elim
end
end Mi
/-! MiC7: expressions of the small syntax: operators, items, tests, isinstance. -/
namespace Mi
open PySem PySem.Spec PyProof.Rows L2

section
variable {W : Wd} {EX : XK} {β : Be} {H : Hp}
theorem PostT.bndT {r : Res Bool} {f : Bool → Store → Res Bool} {Q : Bool → Hp → Prop} (h : PostT W EX β H (Mi.bnd r f) Q) :
    PostT W EX β H r (fun k H1 => ∃ β1 S1, Ext β H β1 H1 ∧ SR W.K β1 H1 S1 ∧ PostT W EX β1 H1 (f k S1) Q) := by
  cases r with
  | ok v S =>
    intro β' H' e s
    refine ⟨β', S, e, s, ?_⟩
    have h' : PostT W EX β H (f v S) Q := h
    cases hf : f v S with
    | ok v2 S2 => rw [hf] at h'; exact fun β2 H2 e2 s2 => h' β2 H2 (e.trans e2) s2
    | err c S2 => rw [hf] at h'; exact fun β2 H2 e2 s2 => h' β2 H2 (e.trans e2) s2
    | fail => rw [hf] at h'; exact h'
  | err c S => exact h
  | fail => exact h
theorem PostT.bndE {r : Res Bool} {f : Bool → Store → Res T} {Q : VK} (h : PostE W EX β H (Mi.bnd r f) Q) :
    PostT W EX β H r (fun k H1 => ∃ β1 S1, Ext β H β1 H1 ∧ SR W.K β1 H1 S1 ∧ PostE W EX β1 H1 (f k S1) Q) := by
  cases r with
  | ok v S =>
    intro β' H' e s
    refine ⟨β', S, e, s, ?_⟩
    have h' : PostE W EX β H (f v S) Q := h
    cases hf : f v S with
    | ok v2 S2 => rw [hf] at h'; exact fun β2 H2 x2 e2 s2 r2 => h' β2 H2 x2 (e.trans e2) s2 r2
    | err c S2 => rw [hf] at h'; exact fun β2 H2 e2 s2 => h' β2 H2 (e.trans e2) s2
    | fail => rw [hf] at h'; exact h'
  | err c S => exact h
  | fail => exact h
theorem PostT.here {k : Bool} {S : Store} {Q : Bool → Hp → Prop} (h : PostT W EX β H (.ok k S) Q) (s : SR W.K β H S) : Q k H := h β H Ext.refl s
end

section
variable {c : Cfg} {env : Env} {S : Store}
theorem bnd_assoc {α γ δ : Type} (r : Res α) (f : α → Store → Res γ) (k : γ → Store → Res δ) : bnd (bnd r f) k = bnd r (fun a S => bnd (f a S) k) := by cases r <;> rfl
theorem evT_not {a : ME} : evT c (.not a) env S = bnd (evT c a env S) fun k S => .ok (!k) S := by
  unfold evT
  rw [show ev c (.not a) env S = bnd (ev c a env S) fun x S => optR (truthy S x) (fun b => .bl (!b)) S from by rw [ev] <;> rfl]
  rw [bnd_assoc, bnd_assoc]
  congr 1
  funext x S
  cases truthy S x <;> rfl
theorem evT_and {a b : ME} : evT c (.and_ a b) env S = bnd (evT c a env S) fun k S => if k then evT c b env S else .ok false S := by
  unfold evT
  rw [show ev c (.and_ a b) env S = bnd (ev c a env S) fun x S => (match truthy S x with | some true => ev c b env S | some false => .ok x S | none => .fail) from by rw [ev] <;> rfl]
  rw [bnd_assoc, bnd_assoc]
  congr 1
  funext x S
  cases h : truthy S x with
  | none => rfl
  | some k => cases k <;> simp [optR, h]
theorem evT_or {a b : ME} : evT c (.or_ a b) env S = bnd (evT c a env S) fun k S => if k then .ok true S else evT c b env S := by
  unfold evT
  rw [show ev c (.or_ a b) env S = bnd (ev c a env S) fun x S => (match truthy S x with | some true => .ok x S | some false => ev c b env S | none => .fail) from by rw [ev] <;> rfl]
  rw [bnd_assoc, bnd_assoc]
  congr 1
  funext x S
  cases h : truthy S x with
  | none => rfl
  | some k => cases k <;> simp [optR, h]
theorem evT_cmp {op : COp} {a b : ME} : evT c (.cmp op a b) env S = bnd (ev c a env S) fun x S => bnd (ev c b env S) fun y S => optR (cmpOp op x y S) id S := by
  unfold evT
  rw [show ev c (.cmp op a b) env S = bnd (ev c a env S) fun x S => bnd (ev c b env S) fun y S => optR (cmpOp op x y S) T.bl S from by rw [ev] <;> rfl]
  rw [bnd_assoc]
  congr 1
  funext x S
  rw [bnd_assoc]
  congr 1
  funext y S
  cases cmpOp op x y S <;> rfl
theorem evT_ife {t a b : ME} : evT c (.ife t a b) env S = bnd (evT c t env S) fun k S => if k then evT c a env S else evT c b env S := by
  unfold evT
  rw [show ev c (.ife t a b) env S = bnd (ev c t env S) fun x S => (match truthy S x with | some true => ev c a env S | some false => ev c b env S | none => .fail) from by rw [ev] <;> rfl]
  rw [bnd_assoc, bnd_assoc]
  congr 1
  funext x S
  cases h : truthy S x with
  | none => rfl
  | some k => cases k <;> simp [optR]
theorem ev_ife {t a b : ME} : ev c (.ife t a b) env S = bnd (evT c t env S) fun k S => if k then ev c a env S else ev c b env S := by
  unfold evT
  rw [show ev c (.ife t a b) env S = bnd (ev c t env S) fun x S => (match truthy S x with | some true => ev c a env S | some false => ev c b env S | none => .fail) from by rw [ev] <;> rfl]
  rw [bnd_assoc]
  congr 1
  funext x S
  cases h : truthy S x with
  | none => rfl
  | some k => cases k <;> rfl
theorem evT_chain {o1 o2 : COp} {a b d : ME} : evT c (.chain o1 o2 a b d) env S = bnd (ev c a env S) fun x S => bnd (ev c b env S) fun y S => (match cmpOp o1 x y S with
    | some true => bnd (ev c d env S) fun z S => optR (cmpOp o2 y z S) id S
    | some false => .ok false S
    | none => .fail) := by
  unfold evT
  rw [show ev c (.chain o1 o2 a b d) env S = bnd (ev c a env S) fun x S => bnd (ev c b env S) fun y S => (match cmpOp o1 x y S with
    | some true => bnd (ev c d env S) fun z S => optR (cmpOp o2 y z S) T.bl S
    | some false => .ok (.bl false) S
    | none => .fail) from by rw [ev] <;> rfl]
  rw [bnd_assoc]
  congr 1
  funext x S
  rw [bnd_assoc]
  congr 1
  funext y S
  cases h : cmpOp o1 x y S with
  | none => rfl
  | some k =>
    cases k with
    | false => rfl
    | true =>
      simp only [bnd_assoc]
      congr 1
      funext z S
      cases cmpOp o2 y z S <;> rfl
end

theorem nomarkS {b : Expr} (h : isSet b = false) (op : CmpOp) : behindInMarks op b = false := by
  cases b <;> first | rfl | (simp [isSet] at h)
theorem plainIx_of {i : Expr} (h : isSlice i = false) : PlainIx i := by
  intro o v
  cases i <;> first | rfl | (simp [isSlice] at h)

section
variable {W : Wd} {d : Nat} {EX : XK} {X : Cx} {Z : Sc} (g : Good W d X Z EX)
include g
theorem tru_X {β : Be} {H : Hp} {S : Store} {t : T} {x : V} {k : Bool} (s : SR W.K β H S) (r : Rep W.K β H t x) (e : truthy S t = some k) : TruV X.K x H k := by rw [g.K]; exact tru_of s r e
theorem snd_bin {heap : Bool} {op : BOp} {ma mb : ME} {a b : Expr} {pos : Pos} (ha : PE X a (tE W d EX ma)) (hb : PE X b (tE W d EX mb)) : PE X (.BinOp a (opOf op) b pos) (tE W d EX (.bin heap op ma mb)) :=
  (pe_op (op_bin g) ha hb).imp fun σ H Q ⟨β, env, S, hS, hE, hp⟩ => by
    rw [ev] at hp
    exact ⟨β, env, S, hS, hE, (PostE.bnd hp).mono fun x H1 ⟨β1, S1, v, x1, s1, r1, hp1⟩ => ⟨β1, env, S1, s1, hE.ext x1, (PostE.bnd hp1).mono fun y H2 ⟨β2, S2, w, x2, s2, r2, hp2⟩ =>
      ⟨β2, S2, v, w, s2, Rep.ext x2 _ _ r1, r2, hp2⟩⟩⟩
theorem snd_neg {ma : ME} {a : Expr} {pos : Pos} (ha : PE X a (tE W d EX ma)) : PE X (.UnaryOp .USub a pos) (tE W d EX (.neg ma)) :=
  (pe_un un_neg ha).imp fun σ H Q ⟨β, env, S, hS, hE, hp⟩ => by
    rw [ev] at hp
    refine ⟨β, env, S, hS, hE, (PostE.bnd hp).mono fun x H1 ⟨β1, S1, v, x1, s1, r1, hp1⟩ => ?_⟩
    cases v with
    | int i => exact ⟨i, r1, hp1.here (x := .int (-i)) s1 rfl⟩
    | _ => exact hp1.elim
theorem snd_not {ma : ME} {a : Expr} {pos : Pos} (ha : PE X a (tE W d EX ma)) : PE X (.UnaryOp .Not a pos) (tE W d EX (.not ma)) :=
  (pe_notT ha).imp fun σ H Q ⟨β, env, S, hS, hE, hp⟩ => by
    rw [ev] at hp
    refine ⟨β, env, S, hS, hE, (PostE.bnd hp).mono fun x H1 ⟨β1, S1, v, x1, s1, r1, hp1⟩ => ?_⟩
    cases ht : truthy S1 v with
    | none => rw [ht] at hp1; exact hp1.elim
    | some k =>
      rw [ht] at hp1
      exact ⟨k, tru_X g s1 r1 ht, hp1.here (x := .bl (!k)) s1 rfl⟩
theorem snd_and {ma mb : ME} {a b : Expr} {r : List Expr} {pos : Pos} (ha : PE X a (tE W d EX ma)) (hb : PE X (.BoolOp .And (b :: r) pos) (tE W d EX mb)) : PE X (.BoolOp .And (a :: b :: r) pos) (tE W d EX (.and_ ma mb)) :=
  (pe_andT ha hb).imp fun σ H Q ⟨β, env, S, hS, hE, hp⟩ => by
    rw [ev] at hp
    refine ⟨β, env, S, hS, hE, (PostE.bnd hp).mono fun x H1 ⟨β1, S1, v, x1, s1, r1, hp1⟩ => ?_⟩
    cases ht : truthy S1 v with
    | none => rw [ht] at hp1; exact hp1.elim
    | some k =>
      rw [ht] at hp1
      refine ⟨k, tru_X g s1 r1 ht, ?_⟩
      cases k with
      | true => exact ⟨β1, env, S1, s1, hE.ext x1, hp1⟩
      | false => exact PostE.here hp1 s1 r1
theorem snd_or {ma mb : ME} {a b : Expr} {r : List Expr} {pos : Pos} (ha : PE X a (tE W d EX ma)) (hb : PE X (.BoolOp .Or (b :: r) pos) (tE W d EX mb)) : PE X (.BoolOp .Or (a :: b :: r) pos) (tE W d EX (.or_ ma mb)) :=
  (pe_orT ha hb).imp fun σ H Q ⟨β, env, S, hS, hE, hp⟩ => by
    rw [ev] at hp
    refine ⟨β, env, S, hS, hE, (PostE.bnd hp).mono fun x H1 ⟨β1, S1, v, x1, s1, r1, hp1⟩ => ?_⟩
    cases ht : truthy S1 v with
    | none => rw [ht] at hp1; exact hp1.elim
    | some k =>
      rw [ht] at hp1
      refine ⟨k, tru_X g s1 r1 ht, ?_⟩
      cases k with
      | false => exact ⟨β1, env, S1, s1, hE.ext x1, hp1⟩
      | true => exact PostE.here hp1 s1 r1
theorem snd_cmp {op : COp} {ma mb : ME} {a b : Expr} {pos : Pos} (ha : PE X a (tE W d EX ma)) (hb : PE X b (tE W d EX mb)) (hs : isSet b = false) : PE X (.Compare a [cmpOf op] [b] pos) (tE W d EX (.cmp op ma mb)) :=
  (pe_cmpR (op_cmp g) ha hb (nomarkS hs _)).imp fun σ H Q ⟨β, env, S, hS, hE, hp⟩ => by
    rw [ev] at hp
    exact ⟨β, env, S, hS, hE, (PostE.bnd hp).mono fun x H1 ⟨β1, S1, v, x1, s1, r1, hp1⟩ => ⟨β1, env, S1, s1, hE.ext x1, (PostE.bnd hp1).mono fun y H2 ⟨β2, S2, w, x2, s2, r2, hp2⟩ =>
      ⟨β2, S2, v, w, s2, Rep.ext x2 _ _ r1, r2, hp2⟩⟩⟩
theorem snd_chain {o1 o2 : COp} {ma mb mc : ME} {a b c : Expr} {pos : Pos} (ha : PE X a (tE W d EX ma)) (hb : PE X b (tE W d EX mb)) (hc : PE X c (tE W d EX mc)) (hs : isSet c = false) : PE X (.Compare a [cmpOf o1, cmpOf o2] [b, c] pos) (tE W d EX (.chain o1 o2 ma mb mc)) :=
  (pe_chain (op_cmp g) (op_cmp g) ha hb hc (by show behindInMarks (cmpOf o2) c = false; exact nomarkS hs _)).imp fun σ H Q ⟨β, env, S, hS, hE, hp⟩ => by
    rw [ev] at hp
    refine ⟨β, env, S, hS, hE, (PostE.bnd hp).mono fun x H1 ⟨β1, S1, v, x1, s1, r1, hp1⟩ => ⟨β1, env, S1, s1, hE.ext x1, (PostE.bnd hp1).mono fun y H2 ⟨β2, S2, w, x2, s2, r2, hp2⟩ => ?_⟩⟩
    refine ⟨β2, S2, v, w, s2, Rep.ext x2 _ _ r1, r2, ?_⟩
    cases hk : cmpOp o1 v w S2 with
    | none => rw [hk] at hp2; exact hp2.elim
    | some k =>
      rw [hk] at hp2
      intro β3 H3 z x3 s3 r3
      refine ⟨k, r3, ?_⟩
      cases k with
      | false =>
        rw [if_neg Bool.false_ne_true]
        exact hp2 β3 H3 (.bl false) x3 s3 rfl
      | true =>
        rw [if_pos rfl]
        refine ⟨β3, env, S2, s3, hE.ext (x1.trans (x2.trans x3)), ?_⟩
        have hp3 : PostE W EX β3 H3 (Mi.bnd (ev (W.cfg d) mc env S2) fun z S => optR (cmpOp o2 w z S) T.bl S) Q := by
          have e : ∀ r : Res T, PostE W EX β2 H2 r Q → PostE W EX β3 H3 r Q := fun r h => by
            cases r with
            | ok v S => exact fun β' H' x a b c => h β' H' x (x3.trans a) b c
            | err c S => exact fun β' H' a b => h β' H' (x3.trans a) b
            | fail => exact h
          exact e _ hp2
        exact (PostE.bnd hp3).mono fun z' H4 ⟨β4, S4, u, x4, s4, r4, hp4⟩ => ⟨β4, S4, w, u, s4, Rep.ext (x3.trans x4) _ _ r2, r4, hp4⟩
/-! ### tests -/
theorem tst_of {m : ME} {e : Expr} (he : PE X e (tE W d EX m)) (hp : ∀ whole, isTrue e X.env whole = (do let v ← whole; standAt e.pos; holding [v] (PySem.truthy v))) : PT X e (tT W d EX m) :=
  (pt_truth he hp).imp fun σ H Q ⟨β, env, S, hS, hE, hq⟩ => by
    refine ⟨β, env, S, hS, hE, (PostE.bndT hq).mono fun x H1 ⟨β1, S1, v, x1, s1, r1, hp1⟩ => ?_⟩
    cases ht : Mi.truthy S1 v with
    | none => rw [ht] at hp1; exact hp1.elim
    | some k =>
      rw [ht] at hp1
      exact ⟨k, tru_X g s1 r1 ht, hp1.here s1⟩
omit g in
theorem tst_not {ma : ME} {a : Expr} {pos : Pos} (ha : PT X a (tT W d EX ma)) : PT X (.UnaryOp .Not a pos) (tT W d EX (.not ma)) :=
  (pt_not ha).imp fun σ H Q ⟨β, env, S, hS, hE, hp⟩ => by
    rw [evT_not] at hp
    exact ⟨β, env, S, hS, hE, (PostT.bndT hp).mono fun k H1 ⟨β1, S1, x1, s1, hp1⟩ => hp1.here s1⟩
omit g in
theorem tst_and {ma mb : ME} {a b : Expr} {r : List Expr} {pos : Pos} (ha : PT X a (tT W d EX ma)) (hb : PW X (.BoolOp .And (b :: r) pos) (tT W d EX mb)) : PW X (.BoolOp .And (a :: b :: r) pos) (tT W d EX (.and_ ma mb)) :=
  ⟨fun wh pins s σ H Q I ⟨β, env, S, hS, hE, hp⟩ => (pw_and ha hb).run wh pins s σ H Q I (by
    rw [evT_and] at hp
    refine ⟨β, env, S, hS, hE, (PostT.bndT hp).mono fun k H1 ⟨β1, S1, x1, s1, hp1⟩ => ?_⟩
    cases k with
    | true => exact ⟨β1, env, S1, s1, hE.ext x1, hp1⟩
    | false => exact PostT.here hp1 s1)⟩
omit g in
theorem tst_or {ma mb : ME} {a b : Expr} {r : List Expr} {pos : Pos} (ha : PT X a (tT W d EX ma)) (hb : PW X (.BoolOp .Or (b :: r) pos) (tT W d EX mb)) : PW X (.BoolOp .Or (a :: b :: r) pos) (tT W d EX (.or_ ma mb)) :=
  ⟨fun wh pins s σ H Q I ⟨β, env, S, hS, hE, hp⟩ => (pw_or ha hb).run wh pins s σ H Q I (by
    rw [evT_or] at hp
    refine ⟨β, env, S, hS, hE, (PostT.bndT hp).mono fun k H1 ⟨β1, S1, x1, s1, hp1⟩ => ?_⟩
    cases k with
    | false => exact ⟨β1, env, S1, s1, hE.ext x1, hp1⟩
    | true => exact PostT.here hp1 s1)⟩
theorem tst_cmp {op : COp} {ma mb : ME} {a b : Expr} {pos : Pos} (ha : PE X a (tE W d EX ma)) (hb : PE X b (tE W d EX mb)) (hs : isSet b = false) : PT X (.Compare a [cmpOf op] [b] pos) (tT W d EX (.cmp op ma mb)) :=
  (pt_cmpR (op_cmp g) ha hb (nomarkS hs _)).imp fun σ H Q ⟨β, env, S, hS, hE, hp⟩ => by
    rw [evT_cmp] at hp
    refine ⟨β, env, S, hS, hE, (PostE.bndT hp).mono fun x H1 ⟨β1, S1, v, x1, s1, r1, hp1⟩ => ⟨β1, env, S1, s1, hE.ext x1, (PostE.bndT hp1).mono fun y H2 ⟨β2, S2, w, x2, s2, r2, hp2⟩ => ?_⟩⟩
    refine ⟨β2, S2, v, w, s2, Rep.ext x2 _ _ r1, r2, ?_⟩
    cases hk : cmpOp op v w S2 with
    | none => rw [hk] at hp2; exact hp2.elim
    | some k =>
      rw [hk] at hp2
      intro β3 H3 z x3 s3 r3
      exact ⟨k, r3, hp2 β3 H3 x3 s3⟩
theorem tst_chain {o1 o2 : COp} {ma mb mc : ME} {a b c : Expr} {pos : Pos} (ha : PE X a (tE W d EX ma)) (hb : PE X b (tE W d EX mb)) (hc : PE X c (tE W d EX mc)) (hs : isSet c = false) : PT X (.Compare a [cmpOf o1, cmpOf o2] [b, c] pos) (tT W d EX (.chain o1 o2 ma mb mc)) :=
  (pt_chain (op_cmp g) (op_cmp g) ha hb hc (by show behindInMarks (cmpOf o2) c = false; exact nomarkS hs _)).imp fun σ H Q ⟨β, env, S, hS, hE, hp⟩ => by
    rw [evT_chain] at hp
    refine ⟨β, env, S, hS, hE, (PostE.bndT hp).mono fun x H1 ⟨β1, S1, v, x1, s1, r1, hp1⟩ => ⟨β1, env, S1, s1, hE.ext x1, (PostE.bndT hp1).mono fun y H2 ⟨β2, S2, w, x2, s2, r2, hp2⟩ => ?_⟩⟩
    refine ⟨β2, S2, v, w, s2, Rep.ext x2 _ _ r1, r2, ?_⟩
    cases hk : cmpOp o1 v w S2 with
    | none => rw [hk] at hp2; exact hp2.elim
    | some k =>
      rw [hk] at hp2
      intro β3 H3 z x3 s3 r3
      refine ⟨k, r3, ?_⟩
      cases k with
      | false =>
        rw [if_neg Bool.false_ne_true]
        exact ⟨false, rfl, hp2 β3 H3 x3 s3⟩
      | true =>
        rw [if_pos rfl]
        refine ⟨β3, env, S2, s3, hE.ext (x1.trans (x2.trans x3)), ?_⟩
        have hp3 : PostT W EX β3 H3 (Mi.bnd (ev (W.cfg d) mc env S2) fun z S => optR (cmpOp o2 w z S) id S) Q := by
          have e : ∀ r : Res Bool, PostT W EX β2 H2 r Q → PostT W EX β3 H3 r Q := fun r h => by
            cases r with
            | ok v S => exact fun β' H' a b => h β' H' (x3.trans a) b
            | err c S => exact fun β' H' a b => h β' H' (x3.trans a) b
            | fail => exact h
          exact e _ hp2
        refine (PostE.bndT hp3).mono fun z' H4 ⟨β4, S4, u, x4, s4, r4, hp4⟩ => ⟨β4, S4, w, u, s4, Rep.ext (x3.trans x4) _ _ r2, r4, ?_⟩
        cases hk2 : cmpOp o2 w u S4 with
        | none => rw [hk2] at hp4; exact hp4.elim
        | some k2 =>
          rw [hk2] at hp4
          intro β5 H5 z5 x5 s5 r5
          exact ⟨k2, r5, hp4 β5 H5 x5 s5⟩
omit g in
theorem snd_ife {mt ma mb : ME} {t a b : Expr} {pos : Pos} (ht : PT X t (tT W d EX mt)) (ha : PE X a (tE W d EX ma)) (hb : PE X b (tE W d EX mb)) : PE X (.IfExp t a b pos) (tE W d EX (.ife mt ma mb)) :=
  (pe_ifExp ht ha hb).imp fun σ H Q ⟨β, env, S, hS, hE, hp⟩ => by
    rw [ev_ife] at hp
    refine ⟨β, env, S, hS, hE, (PostT.bndE hp).mono fun k H1 ⟨β1, S1, x1, s1, hp1⟩ => ?_⟩
    cases k <;> exact ⟨β1, env, S1, s1, hE.ext x1, hp1⟩
/-! ### items, slices -/
theorem snd_sub {ma mi : ME} {a i : Expr} {pos : Pos} (ha : PE X a (tE W d EX ma)) (hi : PE X i (tE W d EX mi)) (hs : isSlice i = false) : PE X (.Subscript a i pos) (tE W d EX (.sub ma mi)) :=
  (pe_ix (ix_item g) ha hi (plainIx_of hs)).imp fun σ H Q ⟨β, env, S, hS, hE, hp⟩ => by
    rw [ev] at hp
    exact ⟨β, env, S, hS, hE, (PostE.bnd hp).mono fun x H1 ⟨β1, S1, v, x1, s1, r1, hp1⟩ => ⟨β1, env, S1, s1, hE.ext x1, (PostE.bnd hp1).mono fun y H2 ⟨β2, S2, w, x2, s2, r2, hp2⟩ =>
      ⟨β2, S2, v, w, s2, Rep.ext x2 _ _ r1, r2, hp2⟩⟩⟩
end
def PostO (W : Wd) (EX : XK) (β : Be) (H : Hp) (r : Res (Option Int)) (Q : Option Int → Hp → Prop) : Prop :=
  match r with
  | .ok v S => ∀ β' H', Ext β H β' H' → SR W.K β' H' S → Q v H'
  | .err c S => ∀ β' H', Ext β H β' H' → SR W.K β' H' S → EX (.ref (W.cls c)) none H'
  | .fail => False
def tO (W : Wd) (d : Nat) (EX : XK) (m : Option ME) : TO := fun σ H Q => ∃ β env S, SR W.K β H S ∧ EnvR W.K β H env σ ∧ PostO W EX β H (evo (W.cfg d) m env S) Q
theorem _root_.L2.PO.imp {X : Cx} {e : Option Expr} {t t' : TO} (h : PO X e t) (f : ∀ σ H Q, t' σ H Q → t σ H Q) : PO X e t' :=
  ⟨fun pins s σ H Q I q => h.run pins s σ H Q I (f σ H Q q)⟩
theorem PostO.mono {W : Wd} {EX : XK} {β : Be} {H : Hp} {r : Res (Option Int)} {Q Q' : Option Int → Hp → Prop} (h : PostO W EX β H r Q) (f : ∀ x H', Q x H' → Q' x H') : PostO W EX β H r Q' := by
  cases r with
  | ok v S => exact fun β' H' a b => f _ _ (h β' H' a b)
  | err c S => exact h
  | fail => exact h
theorem PostO.bnd {W : Wd} {EX : XK} {β : Be} {H : Hp} {r : Res (Option Int)} {f : Option Int → Store → Res T} {Q : VK} (h : PostE W EX β H (Mi.bnd r f) Q) :
    PostO W EX β H r (fun k H1 => ∃ β1 S1, Ext β H β1 H1 ∧ SR W.K β1 H1 S1 ∧ PostE W EX β1 H1 (f k S1) Q) := by
  cases r with
  | ok v S =>
    intro β' H' e s
    refine ⟨β', S, e, s, ?_⟩
    have h' : PostE W EX β H (f v S) Q := h
    cases hf : f v S with
    | ok v2 S2 => rw [hf] at h'; exact fun β2 H2 x2 e2 s2 r2 => h' β2 H2 x2 (e.trans e2) s2 r2
    | err c S2 => rw [hf] at h'; exact fun β2 H2 e2 s2 => h' β2 H2 (e.trans e2) s2
    | fail => rw [hf] at h'; exact h'
  | err c S => exact h
  | fail => exact h
theorem PostE.bndO {W : Wd} {EX : XK} {β : Be} {H : Hp} {r : Res T} {f : T → Store → Res (Option Int)} {Q : Option Int → Hp → Prop} (h : PostO W EX β H (Mi.bnd r f) Q) :
    PostE W EX β H r (fun x H1 => ∃ β1 S1 v, Ext β H β1 H1 ∧ SR W.K β1 H1 S1 ∧ Rep W.K β1 H1 v x ∧ PostO W EX β1 H1 (f v S1) Q) := by
  cases r with
  | ok v S =>
    intro β' H' x e s r
    refine ⟨β', S, v, e, s, r, ?_⟩
    have h' : PostO W EX β H (f v S) Q := h
    cases hf : f v S with
    | ok v2 S2 => rw [hf] at h'; exact fun β2 H2 e2 s2 => h' β2 H2 (e.trans e2) s2
    | err c S2 => rw [hf] at h'; exact fun β2 H2 e2 s2 => h' β2 H2 (e.trans e2) s2
    | fail => rw [hf] at h'; exact h'
  | err c S => exact h
  | fail => exact h
section
variable {W : Wd} {d : Nat} {EX : XK} {X : Cx} {Z : Sc}
theorem sndO_none : PO X none (tO W d EX none) := po_none.imp fun σ H Q ⟨β, env, S, hS, hE, hp⟩ => by
  rw [evo] at hp
  exact hp β H Ext.refl hS
theorem sndO_some {m : ME} {e : Expr} (he : PE X e (tE W d EX m)) : PO X (some e) (tO W d EX (some m)) := (po_some he).imp fun σ H Q ⟨β, env, S, hS, hE, hp⟩ => by
  rw [evo] at hp
  refine ⟨β, env, S, hS, hE, (PostE.bndO hp).mono fun x H1 ⟨β1, S1, v, x1, s1, r1, hp1⟩ => ?_⟩
  cases v with
  | int k => exact ⟨k, r1, hp1 β1 H1 Ext.refl s1⟩
  | _ => exact hp1.elim
theorem snd_slice (g : Good W d X Z EX) {ma : ME} {ml mh : Option ME} {a : Expr} {lo hi : Option Expr} {pos p2 : Pos} (ha : PE X a (tE W d EX ma)) (hl : PO X lo (tO W d EX ml)) (hh : PO X hi (tO W d EX mh)) :
    PE X (.Subscript a (.Slice lo hi none p2) pos) (tE W d EX (.slice ma ml mh)) :=
  (pe_slice (sl_any g) ha hl hh).imp fun σ H Q ⟨β, env, S, hS, hE, hp⟩ => by
    rw [ev] at hp
    exact ⟨β, env, S, hS, hE, (PostE.bnd hp).mono fun x H1 ⟨β1, S1, v, x1, s1, r1, hp1⟩ => ⟨β1, env, S1, s1, hE.ext x1, (PostO.bnd hp1).mono fun l H2 ⟨β2, S2, x2, s2, hp2⟩ =>
      ⟨β2, env, S2, s2, hE.ext (x1.trans x2), (PostO.bnd hp2).mono fun h H3 ⟨β3, S3, x3, s3, hp3⟩ => ⟨β3, S3, v, s3, Rep.ext (x2.trans x3) _ _ r1, hp3⟩⟩⟩⟩
end
end Mi
/-! MiC8: calls of built-ins, isinstance, methods. -/
namespace Mi
open PySem PySem.Spec PyProof.Rows L2

theorem view_ref_lst {S : Store} {t : T} {xs : List T} (e : lstOf S t = some xs) : view S t = .lst xs := by
  unfold lstOf at e
  cases h : view S t with
  | lst ys => rw [h] at e; rw [Option.some.inj e]
  | _ => rw [h] at e; cases e
theorem bls_of {K : PySem.W.Frag} {β : Be} {H : Hp} : ∀ {ts : List T} {vs : List V} {bs : List Bool}, Reps K β H ts vs → asBls ts = some bs → vs = bs.map V.bl
  | [], _, bs, r, e => by
    have e1 : bs = [] := (Option.some.inj e).symm
    rw [e1]; exact r
  | t :: ts, _, bs, ⟨v, r', e1, h, hs⟩, e => by
    cases t with
    | bl b =>
      simp only [asBls] at e
      cases ha : asBls ts with
      | none => rw [ha] at e; cases e
      | some cs =>
        rw [ha] at e
        have e2 : bs = b :: cs := (Option.some.inj e).symm
        rw [e2, e1, bls_of hs ha, show v = V.bl b from h]
        rfl
    | _ => cases e
theorem ints_of {K : PySem.W.Frag} {β : Be} {H : Hp} : ∀ {ts : List T} {vs : List V} {bs : List Int}, Reps K β H ts vs → asInts ts = some bs → vs = bs.map V.int
  | [], _, bs, r, e => by
    have e1 : bs = [] := (Option.some.inj e).symm
    rw [e1]; exact r
  | t :: ts, _, bs, ⟨v, r', e1, h, hs⟩, e => by
    cases t with
    | int b =>
      simp only [asInts] at e
      cases ha : asInts ts with
      | none => rw [ha] at e; cases e
      | some cs =>
        rw [ha] at e
        have e2 : bs = b :: cs := (Option.some.inj e).symm
        rw [e2, e1, ints_of hs ha, show v = V.int b from h]
        rfl
    | _ => cases e
theorem strs_of {K : PySem.W.Frag} {β : Be} {H : Hp} : ∀ {ts : List T} {vs : List V} {bs : List (List Char)}, Reps K β H ts vs → asStrs ts = some bs → vs = (bs.map toStr).map V.str ∧ ∀ s ∈ bs, s.length ≤ line
  | [], _, bs, r, e => by
    have e1 : bs = [] := (Option.some.inj e).symm
    rw [e1]; exact ⟨r, fun s hs => nomatch hs⟩
  | t :: ts, _, bs, ⟨v, r', e1, h, hs⟩, e => by
    cases t with
    | str b =>
      simp only [asStrs] at e
      cases ha : asStrs ts with
      | none => rw [ha] at e; cases e
      | some cs =>
        rw [ha] at e
        have e2 : bs = b :: cs := (Option.some.inj e).symm
        obtain ⟨i1, i2⟩ := strs_of hs ha
        rw [e2, e1, i1, h.1]
        refine ⟨rfl, fun s hm => ?_⟩
        rcases List.mem_cons.mp hm with q | q
        · rw [q]; exact h.2
        · exact i2 s q
    | _ => cases e

def rBi (W : Wd) (EX : XK) (b : BI) : List V → Hp → VK → Prop := fun xs H Q => ∃ β S vs, SR W.K β H S ∧ Reps W.K β H vs xs ∧ PostE W EX β H (biOp b vs S) Q
theorem reps1 {K : PySem.W.Frag} {β : Be} {H : Hp} {a : T} {vs : List V} (r : Reps K β H [a] vs) : ∃ v, vs = [v] ∧ Rep K β H a v := by
  obtain ⟨v, r', e, h, hs⟩ := r
  rw [show r' = [] from hs] at e
  exact ⟨v, e, h⟩
theorem reps2 {K : PySem.W.Frag} {β : Be} {H : Hp} {a b : T} {vs : List V} (r : Reps K β H [a, b] vs) : ∃ v w, vs = [v, w] ∧ Rep K β H a v ∧ Rep K β H b w := by
  obtain ⟨v, r', e, h, hs⟩ := r
  obtain ⟨w, e', h'⟩ := reps1 hs
  rw [e'] at e
  exact ⟨v, w, e, h, h'⟩

theorem notLst {S : Store} {a : T} {α : Type} {f : List T → Option α} (h : lstOf S a = none) : (lstOf S a).bind f = none := by rw [h]; rfl
section
variable {W : Wd} {d : Nat} {EX : XK} {X : Cx} {Z : Sc} (g : Good W d X Z EX)
include g
theorem scr_sq {β : Be} {H : Hp} {ns : List Int} {v : V} (ra : Rep W.K β H (.scr ns) v) : ∃ p, v = .ref p ∧ SqL X.K H p (ns.map V.int) := by
  obtain ⟨_, p, e1, q⟩ := ra
  refine ⟨p, e1, ?_⟩
  rw [g.K]
  rcases q with ⟨q, _⟩ | q
  · exact .inl q
  · exact .inr q
theorem bi_len : CallR X (.builtin "len") (rBi W EX .len) := by
  intro pins s σ H xs us Q I r ⟨β, S, vs, hS, rr, hp⟩
  match vs, rr, hp with
  | [], _, hp => exact (show False from hp).elim
  | _ :: _ :: _, _, hp => exact (show False from hp).elim
  | [a], rr, hp =>
    obtain ⟨v, e, ra⟩ := reps1 rr
    subst e
    cases hv : view S a with
    | tup ts =>
      simp only [biOp, hv] at hp
      rw [view_tup hv] at ra
      obtain ⟨_, p, ws, e1, q, _, r1⟩ := ra
      exact call_len pins s σ H _ us Q I r ⟨v, ts.length, rfl, by rw [e1]; exact .inr ⟨ws, .of q, r1.length⟩, hp.here (x := .int _) hS rfl⟩
    | lst ts =>
      simp only [biOp, hv] at hp
      obtain ⟨_, p, ws, e1, q, r1⟩ := view_lst hS ra hv
      exact call_len pins s σ H _ us Q I r ⟨v, ts.length, rfl, by rw [e1]; exact .inl ⟨ws, .of q, r1.length⟩, hp.here (x := .int _) hS rfl⟩
    | str c =>
      simp only [biOp, hv] at hp
      rw [view_str hv] at ra
      exact call_len pins s σ H _ us Q I r ⟨v, c.length, rfl, by rw [ra.1]; exact ⟨by rw [toStr_length]; exact le_line ra.2, (toStr_length c).symm⟩, hp.here (x := .int _) hS rfl⟩
    | scr ns =>
      simp only [biOp, hv] at hp
      rw [view_scr hv] at ra
      obtain ⟨p, e1, hq⟩ := scr_sq g ra
      exact call_len pins s σ H _ us Q I r ⟨v, ns.length, rfl, by rw [e1]; exact .inl ⟨_, hq, by rw [List.length_map]⟩, hp.here (x := .int _) hS rfl⟩
    | _ => simp only [biOp, hv] at hp; exact hp.elim
theorem bi_all : CallR X (.builtin "all") (rBi W EX .all) := by
  intro pins s σ H xs us Q I r ⟨β, S, vs, hS, rr, hp⟩
  match vs, rr, hp with
  | [], _, hp => exact (show False from hp).elim
  | _ :: _ :: _, _, hp => exact (show False from hp).elim
  | [a], rr, hp =>
    obtain ⟨v, e, ra⟩ := reps1 rr
    subst e
    simp only [biOp] at hp
    cases hl : lstOf S a with
    | none => simp only [notLst hl, optR] at hp; exact hp.elim
    | some ts =>
      obtain ⟨_, p, ws, e1, q, r1⟩ := view_lst hS ra (view_ref_lst hl)
      cases hb : asBls ts with
      | none => simp only [hl, Option.bind_some, hb, optR] at hp; exact hp.elim
      | some bs =>
        simp only [hl, Option.bind_some, hb, optR] at hp
        exact cr_all g.calm pins s σ H _ us Q I r ⟨p, bs, by rw [e1], .of (by rw [← bls_of r1 hb]; exact q), hp.here (x := .bl _) hS rfl⟩
theorem bi_any : CallR X (.builtin "any") (rBi W EX .any) := by
  intro pins s σ H xs us Q I r ⟨β, S, vs, hS, rr, hp⟩
  match vs, rr, hp with
  | [], _, hp => exact (show False from hp).elim
  | _ :: _ :: _, _, hp => exact (show False from hp).elim
  | [a], rr, hp =>
    obtain ⟨v, e, ra⟩ := reps1 rr
    subst e
    simp only [biOp] at hp
    cases hl : lstOf S a with
    | none => simp only [notLst hl, optR] at hp; exact hp.elim
    | some ts =>
      obtain ⟨_, p, ws, e1, q, r1⟩ := view_lst hS ra (view_ref_lst hl)
      cases hb : asBls ts with
      | none => simp only [hl, Option.bind_some, hb, optR] at hp; exact hp.elim
      | some bs =>
        simp only [hl, Option.bind_some, hb, optR] at hp
        exact cr_any g.calm pins s σ H _ us Q I r ⟨p, bs, by rw [e1], .of (by rw [← bls_of r1 hb]; exact q), hp.here (x := .bl _) hS rfl⟩
theorem bi_sum : CallR X (.builtin "sum") (rBi W EX .sum) := by
  intro pins s σ H xs us Q I r ⟨β, S, vs, hS, rr, hp⟩
  match vs, rr, hp with
  | [], _, hp => exact (show False from hp).elim
  | _ :: _ :: _, _, hp => exact (show False from hp).elim
  | [a], rr, hp =>
    obtain ⟨v, e, ra⟩ := reps1 rr
    subst e
    simp only [biOp] at hp
    cases hl : lstOf S a with
    | none => simp only [notLst hl, optR] at hp; exact hp.elim
    | some ts =>
      obtain ⟨_, p, ws, e1, q, r1⟩ := view_lst hS ra (view_ref_lst hl)
      cases hb : asInts ts with
      | none => simp only [hl, Option.bind_some, hb, optR] at hp; exact hp.elim
      | some bs =>
        simp only [hl, Option.bind_some, hb, optR] at hp
        exact cr_sum g.calm pins s σ H _ us Q I r ⟨p, bs, by rw [e1], .of (by rw [← ints_of r1 hb]; exact q), hp.here (x := .int _) hS rfl⟩
theorem bi_min2 : CallR X (.builtin "min") (rBi W EX .min2) := by
  intro pins s σ H xs us Q I r ⟨β, S, vs, hS, rr, hp⟩
  have sh : (∃ i j, vs = [.int i, .int j]) ∨ biOp .min2 vs S = .fail := by
    unfold biOp
    split <;> simp_all
  rcases sh with ⟨i, j, rfl⟩ | e
  case inr => rw [e] at hp; exact hp.elim
  simp only [biOp] at hp
  obtain ⟨v, w, e, ra, rb⟩ := reps2 rr
  rw [show v = _ from ra, show w = _ from rb] at e
  exact call_min2 g.calm pins s σ H _ us Q I r ⟨i, j, e, hp.here (x := .int _) hS rfl⟩
theorem bi_max2 : CallR X (.builtin "max") (rBi W EX .max2) := by
  intro pins s σ H xs us Q I r ⟨β, S, vs, hS, rr, hp⟩
  have sh : (∃ i j, vs = [.int i, .int j]) ∨ biOp .max2 vs S = .fail := by
    unfold biOp
    split <;> simp_all
  rcases sh with ⟨i, j, rfl⟩ | e
  case inr => rw [e] at hp; exact hp.elim
  simp only [biOp] at hp
  obtain ⟨v, w, e, ra, rb⟩ := reps2 rr
  rw [show v = _ from ra, show w = _ from rb] at e
  exact call_max2 g.calm pins s σ H _ us Q I r ⟨i, j, e, hp.here (x := .int _) hS rfl⟩
theorem bi_int : CallR X (.type "int") (rBi W EX .int) := by
  intro pins s σ H xs us Q I r ⟨β, S, vs, hS, rr, hp⟩
  have sh : (∃ b, vs = [.bl b]) ∨ biOp .int vs S = .fail := by
    unfold biOp
    split <;> simp_all
  rcases sh with ⟨b, rfl⟩ | e
  case inr => rw [e] at hp; exact hp.elim
  simp only [biOp] at hp
  obtain ⟨v, e, ra⟩ := reps1 rr
  rw [show v = _ from ra] at e
  exact call_int1 pins s σ H _ us Q I r (.inr ⟨b, e, hp.here (x := .int _) hS rfl⟩)
theorem bi_tuple : CallR X (.type "tuple") (rBi W EX .tuple) := by
  intro pins s σ H xs us Q I r ⟨β, S, vs, hS, rr, hp⟩
  match vs, rr, hp with
  | [], _, hp => exact (show False from hp).elim
  | _ :: _ :: _, _, hp => exact (show False from hp).elim
  | [a], rr, hp =>
    obtain ⟨v, e, ra⟩ := reps1 rr
    subst e
    simp only [biOp] at hp
    cases hv : view S a with
    | tup ts =>
      simp only [seqOf, hv, optR] at hp
      rw [view_tup hv] at ra
      obtain ⟨hl, p, ws, e1, q, n, r1⟩ := ra
      exact call_tuple_of pins s σ H _ us Q I r ⟨p, ws, by rw [e1], .inr ⟨.of q, hp.here hS ⟨hl, p, ws, rfl, q, n, r1⟩⟩⟩
    | lst ts =>
      simp only [seqOf, hv, optR] at hp
      obtain ⟨hl, p, ws, e1, q, r1⟩ := view_lst hS ra hv
      exact call_tuple_of pins s σ H _ us Q I r ⟨p, ws, by rw [e1], .inl ⟨.of q, (hp.newTup hS r1 hl).2⟩⟩
    | _ => simp only [seqOf, hv, optR] at hp; exact hp.elim
theorem bi_list : CallR X (.type "list") (rBi W EX .list) := by
  intro pins s σ H xs us Q I r ⟨β, S, vs, hS, rr, hp⟩
  match vs, rr, hp with
  | [], _, hp => exact (show False from hp).elim
  | _ :: _ :: _, _, hp => exact (show False from hp).elim
  | [a], rr, hp =>
    obtain ⟨v, e, ra⟩ := reps1 rr
    subst e
    simp only [biOp] at hp
    cases hv : view S a with
    | tup ts =>
      simp only [seqOf, hv, optR] at hp
      rw [view_tup hv] at ra
      obtain ⟨hl, p, ws, e1, q, n, r1⟩ := ra
      exact call_list_of pins s σ H _ us Q I r ⟨p, ws, by rw [e1], .inr (.of q), (PostE.newLst (heap := false) hp hS r1 hl).2⟩
    | lst ts =>
      simp only [seqOf, hv, optR] at hp
      obtain ⟨hl, p, ws, e1, q, r1⟩ := view_lst hS ra hv
      exact call_list_of pins s σ H _ us Q I r ⟨p, ws, by rw [e1], .inl (.of q), (PostE.newLst (heap := false) hp hS r1 hl).2⟩
    | _ => simp only [seqOf, hv, optR] at hp; exact hp.elim
end
end Mi
/-! MiC9: calls as expressions. -/
namespace Mi
open PySem PySem.Spec PyProof.Rows L2

theorem blt_str : bootBuiltins "str" = some (.type "str") := by decide +kernel
theorem blt_tuple : bootBuiltins "tuple" = some (.type "tuple") := by decide +kernel
theorem blt_int : bootBuiltins "int" = some (.type "int") := by decide +kernel
theorem blt_bool : bootBuiltins "bool" = some (.type "bool") := by decide +kernel
theorem blt_list : bootBuiltins "list" = some (.type "list") := by decide +kernel
theorem blt_dict : bootBuiltins "dict" = some (.type "dict") := by decide +kernel
theorem blt_len : bootBuiltins "len" = some (.builtin "len") := by decide +kernel
theorem blt_all : bootBuiltins "all" = some (.builtin "all") := by decide +kernel
theorem blt_any : bootBuiltins "any" = some (.builtin "any") := by decide +kernel
theorem blt_sum : bootBuiltins "sum" = some (.builtin "sum") := by decide +kernel
theorem blt_min : bootBuiltins "min" = some (.builtin "min") := by decide +kernel
theorem blt_max : bootBuiltins "max" = some (.builtin "max") := by decide +kernel
theorem blt_isinstance : bootBuiltins "isinstance" = some (.builtin "isinstance") := by decide +kernel

theorem eqEs_star {m : ME} {ms : List ME} {Z : Sc} {e : Expr} {es : List Expr} (h : eqEs (m :: ms) Z (e :: es) = true) (env : PySem.Env) : starEach (e :: es) env = (false, eval e env) :: starEach es env := by
  simp only [eqEs, Bool.and_eq_true] at h
  exact eq_nostar h.1
theorem eqEs_plain {Z : Sc} : ∀ {ms : List ME} {es : List Expr}, eqEs ms Z es = true → ∀ (env : PySem.Env) (pos : Pos), (backTo pos (starEach es env)).any (·.1) = false
  | [], [], _, _, _ => rfl
  | [], _ :: _, h, _, _ => by simp [eqEs] at h
  | _ :: _, [], h, _, _ => by simp [eqEs] at h
  | m :: ms, e :: es, h, env, pos => by
    rw [eqEs_star h]
    simp only [eqEs, Bool.and_eq_true] at h
    have := eqEs_plain h.2 env pos
    unfold backTo at this ⊢
    rw [List.map_cons, List.any_cons, this]
    rfl
theorem base_of {m : ME} {Z : Sc} {o : Expr} (h : eqE m Z o = true) (n : Str) (env : PySem.Env) (w : Sem Value) : attributeBase o n env w = w := by
  cases o with
  | Call f args kws pos =>
    cases args with
    | cons a as => cases f <;> rfl
    | nil =>
      cases f with
      | Name x p =>
        cases kws with
        | cons k ks => rfl
        | nil => cases m <;> simp [eqE] at h <;> (try (rename_i b es; cases b <;> simp [eqE, biName, biArgs] at h))
      | _ => rfl
  | _ => rfl

section
variable {W : Wd} {d : Nat} {EX : XK} {X : Cx} {Z : Sc} (g : Good W d X Z EX) (ok : W.Ok)
include g
theorem mgB {x : Str} (ok : W.Ok) (hx : x ∈ bltNames) : X.mg x = none := by rw [g.mg]; exact ok.blt x hx
theorem snd_biB {b : BI} {id : String} {x : Str} {m : ME} {ms : List ME} {e : Expr} {es : List Expr} {p pos : Pos} (ok : W.Ok) (hc : CallR X (.builtin id) (rBi W EX b)) (hx : x ∈ bltNames) (hv : bootBuiltins x = some (.builtin id)) (hg : glbB Z x = true)
    (he : eqEs (m :: ms) Z (e :: es) = true) (ha : PA X (e :: es) (tA W d EX (m :: ms))) : PE X (.Call (.Name x p) (e :: es) [] pos) (tE W d EX (.bi b (m :: ms))) := by
  obtain ⟨h1, h2, h3⟩ := glb_of g hg
  refine (pe_callB hc h1 (mgB g ok hx) hv ha h3 h2 (eqEs_star he _) (eqEs_plain (by simp only [eqEs, Bool.and_eq_true] at he; exact he.2) _ _)).imp fun σ H Q ⟨β, env, S, hS, hE, hp⟩ => ?_
  rw [ev] at hp
  exact ⟨β, env, S, hS, hE, (PostA.bnd hp).mono fun xs H1 ⟨β1, S1, vs, x1, s1, r1, hp1⟩ => ⟨β1, S1, vs, s1, r1, hp1⟩⟩
theorem snd_biT {b : BI} {T0 : String} {x : Str} {m : ME} {ms : List ME} {e : Expr} {es : List Expr} {p pos : Pos} (ok : W.Ok) (hc : CallR X (.type T0) (rBi W EX b)) (hx : x ∈ bltNames) (hv : bootBuiltins x = some (.type T0)) (hg : glbB Z x = true)
    (he : eqEs (m :: ms) Z (e :: es) = true) (ha : PA X (e :: es) (tA W d EX (m :: ms))) : PE X (.Call (.Name x p) (e :: es) [] pos) (tE W d EX (.bi b (m :: ms))) := by
  obtain ⟨h1, h2, h3⟩ := glb_of g hg
  refine (pe_callTy hc h1 (mgB g ok hx) hv ha h3 h2 (eqEs_star he _) (eqEs_plain (by simp only [eqEs, Bool.and_eq_true] at he; exact he.2) _ _)).imp fun σ H Q ⟨β, env, S, hS, hE, hp⟩ => ?_
  rw [ev] at hp
  exact ⟨β, env, S, hS, hE, (PostA.bnd hp).mono fun xs H1 ⟨β1, S1, vs, x1, s1, r1, hp1⟩ => ⟨β1, S1, vs, s1, r1, hp1⟩⟩
theorem snd_call {f : Nat} {x : Str} {m : ME} {ms : List ME} {e : Expr} {es : List Expr} {p pos : Pos} (ok : W.Ok) (F : W.Fns d) (hx : x = Z.nm.f f) (hh : Z.nm.has f = true) (hg : glbB Z x = true)
    (he : eqEs (m :: ms) Z (e :: es) = true) (ha : PA X (e :: es) (tA W d EX (m :: ms))) : PE X (.Call (.Name x p) (e :: es) [] pos) (tE W d EX (.call f (m :: ms))) := by
  obtain ⟨h1, h2, h3⟩ := glb_of g hg
  rw [g.nm] at hh hx
  obtain ⟨fd, hf⟩ := ok.has f hh
  obtain ⟨q1, q2, q3, q4⟩ := ok.fn f fd hf
  have F' : FnOk X.prog X.w X.K X.mg X.base (L2.CX X.prog X.w) (lvl d) (W.fa f) (W.fd f) (W.ps f) (spOf W d f) := by
    rw [g.prog, g.w, g.K, g.mg, g.base]
    exact F f fd hf
  refine (pe_call F' g.room h1 (by rw [g.mg, hx]; exact q1) (by rw [g.K]; exact q2) (by rw [g.K]; exact q3) .nil g.pass ha h2 (eqEs_star he _) (eqEs_plain (by simp only [eqEs, Bool.and_eq_true] at he; exact he.2) _ _)).imp fun σ H Q ⟨β, env, S, hS, hE, hp⟩ => ?_
  rw [ev] at hp
  refine ⟨β, env, S, hS, hE, (PostA.bnd hp).mono fun xs H1 ⟨β1, S1, vs, x1, s1, r1, hp1⟩ => ?_⟩
  rw [List.append_nil]
  refine ⟨?_, β1, S1, vs, s1, r1, hp1⟩
  rw [← r1.length, q4]
  -- the number of arguments
  have hp2 : PostE W EX β1 H1 (callN W.G W.gv W.fuel d f vs S1) Q := hp1
  cases d with
  | zero => exact hp2.elim
  | succ d =>
    unfold callN at hp2
    rw [hf] at hp2
    by_cases hl : vs.length = fd.params
    · exact hl
    · simp only [hl, if_false] at hp2
      exact hp2.elim
end

/-! ### isinstance -/
def tyName : T → String
  | .non => "NoneType" | .bl _ => "bool" | .int _ => "int" | .str _ => "str" | .tup _ => "tuple" | .lst _ => "list" | .scr _ => "list" | .ref _ => "list"
theorem ty_of {K : PySem.W.Frag} {β : Be} {H : Hp} {S : Store} {t : T} {x : V} (hS : SR K β H S) (r : Rep K β H t x) {ty : TY} {b : Bool} (h : isTY ty t S = some b) : ∃ n, TyOf K H x (.type n) ∧ (n = tyName t ∨ n = "dict" ∧ ∃ k, t = .ref k) := by
  cases t with
  | non => rw [show x = _ from r]; exact ⟨_, .non, .inl rfl⟩
  | bl b => rw [show x = _ from r]; exact ⟨_, .bl b, .inl rfl⟩
  | int i => rw [show x = _ from r]; exact ⟨_, .int i, .inl rfl⟩
  | str s => rw [r.1]; exact ⟨_, .str _, .inl rfl⟩
  | tup ts => obtain ⟨_, a, vs, e, q, _⟩ := r; rw [e]; exact ⟨_, .tup q, .inl rfl⟩
  | lst ts => obtain ⟨_, a, vs, e, q, _⟩ := r; rw [e]; exact ⟨_, .lst q, .inl rfl⟩
  | scr _ => cases h
  | ref n =>
    obtain ⟨a, e, ha⟩ := r
    rw [e]
    simp only [isTY] at h
    cases hn : S[n]? with
    | none => rw [hn] at h; cases h
    | some o =>
      obtain ⟨a', ha', ho⟩ := hS.at hn
      rw [ha] at ha'
      cases ha'
      cases o with
      | lst ts => obtain ⟨_, vs, q, _⟩ := ho; exact ⟨_, .lst q, .inl rfl⟩
      | dct ts => obtain ⟨_, vs, q, _⟩ := ho; exact ⟨_, .dK q, .inr ⟨rfl, n, rfl⟩⟩
def tyStr : TY → String
  | .str => "str" | .tup => "tuple" | .int => "int" | .bool => "bool" | .intStr => "int"
theorem kit_of' {K : PySem.W.Frag} {S : Store} {t : T} {ty : TY} {b : Bool} {n : String} (hty : ty ≠ .intStr) (h : isTY ty t S = some b) (hn : n = tyName t ∨ n = "dict" ∧ ∃ k, t = .ref k) : PySem.W.kitOne K (.type n) (.type (tyStr ty)) = some b := by
  have hb : ∀ k, t = .ref k → b = false := fun k e => by
    rw [e] at h
    simp only [isTY] at h
    cases hk : S[k]? <;> rw [hk] at h <;> simp_all
  rcases hn with rfl | ⟨rfl, k, e⟩
  · cases t with
    | ref k => rw [hb k rfl]; cases ty <;> simp only [tyName, tyStr] <;> exact kit_ty (by decide +kernel)
    | scr _ => cases h
    | _ => cases ty <;> simp only [isTY, Option.some.injEq] at h <;> first | exact absurd rfl hty | (subst h; simp only [tyName, tyStr]; exact kit_ty (by decide +kernel))
  · rw [hb k e]; cases ty <;> simp only [tyStr] <;> exact kit_ty (by decide +kernel)
theorem kit_str {K : PySem.W.Frag} {S : Store} {t : T} {b : Bool} {n : String} (h : isTY .intStr t S = some b) (hn : n = tyName t ∨ n = "dict" ∧ ∃ k, t = .ref k) : PySem.W.kitAny K (.type n) [.type "int", .type "str"] = some b := by
  have hb : ∀ k, t = .ref k → b = false := fun k e => by
    rw [e] at h
    simp only [isTY] at h
    cases hk : S[k]? <;> rw [hk] at h <;> simp_all
  have two : ∀ (n : String) (c e : Bool), kitB n "int" = some c → kitB n "str" = some e → PySem.W.kitAny K (.type n) [.type "int", .type "str"] = some (c || e) := fun n c e h1 h2 =>
    kitAny_cons (b := c) (kit_ty h1) (fun hc => by
      rw [hc]
      exact kitAny_cons (b := e) (kit_ty h2) (fun he => by rw [he]; exact kitAny_nil) (fun he => by rw [he]; rfl)) (fun hc => by rw [hc]; rfl)
  rcases hn with rfl | ⟨rfl, k, e⟩
  · cases t with
    | ref k => rw [hb k rfl]; exact two "list" false false (by decide +kernel) (by decide +kernel)
    | scr _ => cases h
    | non => simp [isTY] at h; subst h; exact two "NoneType" false false (by decide +kernel) (by decide +kernel)
    | bl _ => simp [isTY] at h; subst h; exact two "bool" true false (by decide +kernel) (by decide +kernel)
    | int _ => simp [isTY] at h; subst h; exact two "int" true false (by decide +kernel) (by decide +kernel)
    | str _ => simp [isTY] at h; subst h; exact two "str" false true (by decide +kernel) (by decide +kernel)
    | tup _ => simp [isTY] at h; subst h; exact two "tuple" false false (by decide +kernel) (by decide +kernel)
    | lst _ => simp [isTY] at h; subst h; exact two "list" false false (by decide +kernel) (by decide +kernel)
  · rw [hb k e]; exact two "dict" false false (by decide +kernel) (by decide +kernel)
section
variable {W : Wd} {d : Nat} {EX : XK} {X : Cx} {Z : Sc} (g : Good W d X Z EX)
include g
theorem pe_ty {n : String} {x : Str} {p : Pos} (ok : W.Ok) (hx : x ∈ bltNames) (hv : bootBuiltins x = some (.type n)) (hg : glbB Z x = true) : PE X (.Name x p) (tC (.ty n)) := by
  obtain ⟨h1, h2, h3⟩ := glb_of g hg
  exact pe_bltn h1 (mgB g ok hx) hv rfl h3 h2
omit g in
theorem nameB_of {x : Str} {e : Expr} (h : nameB Z x e = true) : ∃ p, e = .Name x p ∧ glbB Z x = true := by
  cases e <;> simp [nameB] at h
  rename_i y p
  obtain ⟨h1, h2⟩ := h
  subst h1
  exact ⟨p, rfl, h2⟩
theorem snd_isi {ty : TY} {m : ME} {a t : Expr} {p pos : Pos} (ok : W.Ok) (hg : glbB Z "isinstance" = true) (he : eqE m Z a = true) (ht : tyB Z ty t = true) (ha : PE X a (tE W d EX m)) :
    PE X (.Call (.Name "isinstance" p) [a, t] [] pos) (tE W d EX (.isi ty m)) := by
  obtain ⟨h1, h2, h3⟩ := glb_of g hg
  have fin : ∀ (n : String) (x : Str) (q : Pos), ty ≠ .intStr → n = tyStr ty → t = .Name x q → x ∈ bltNames → bootBuiltins x = some (.type n) → glbB Z x = true → PE X (.Call (.Name "isinstance" p) [a, t] [] pos) (tE W d EX (.isi ty m)) := by
    intro n x q hn en et hx hv hgx
    subst et en
    refine (pe_callB call_isi h1 (mgB g ok (by decide)) blt_isinstance (pa_cons ha (pa_cons (pe_ty g ok hx hv hgx) pa_nil) (eq_nostar he)) h3 h2 (eq_nostar he) rfl).imp fun σ H Q ⟨β, env, S, hS, hE, hp⟩ => ?_
    rw [ev] at hp
    refine ⟨β, env, S, hS, hE, (PostE.bnd hp).mono fun v H1 ⟨β1, S1, w, x1, s1, r1, hp1⟩ => ?_⟩
    cases hi : isTY ty w S1 with
    | none => rw [hi] at hp1; exact hp1.elim
    | some b =>
      rw [hi] at hp1
      obtain ⟨n, q1, q2⟩ := ty_of s1 r1 hi
      exact ⟨v, .ty (tyStr ty), .type n, .type (tyStr ty), b, rfl, .ty _, .base (by rw [g.K]; exact q1), kit_of' hn hi q2, hp1.here (x := .bl b) s1 rfl⟩
  cases ty with
  | str => obtain ⟨q, e, hq⟩ := nameB_of ht; exact fin "str" _ q (by decide) rfl e (by decide) blt_str hq
  | tup => obtain ⟨q, e, hq⟩ := nameB_of ht; exact fin "tuple" _ q (by decide) rfl e (by decide) blt_tuple hq
  | int => obtain ⟨q, e, hq⟩ := nameB_of ht; exact fin "int" _ q (by decide) rfl e (by decide) blt_int hq
  | bool => obtain ⟨q, e, hq⟩ := nameB_of ht; exact fin "bool" _ q (by decide) rfl e (by decide) blt_bool hq
  | intStr =>
    cases t with
    | Tuple es k tp =>
      match es, ht with
      | [], ht => simp [tyB] at ht
      | [_], ht => simp [tyB] at ht
      | _ :: _ :: _ :: _, ht => simp [tyB] at ht
      | [x1, x2], ht =>
        simp only [tyB, Bool.and_eq_true] at ht
        obtain ⟨q1, e1, hq1⟩ := nameB_of ht.1
        obtain ⟨q2, e2, hq2⟩ := nameB_of ht.2
        subst e1 e2
        refine (pe_callB call_isiT h1 (mgB g ok (by decide)) blt_isinstance (pa_cons ha (pa_cons (pe_tup (pa_cons (pe_ty g ok (by decide) blt_int hq1) (pa_cons (pe_ty g ok (by decide) blt_str hq2) pa_nil))) pa_nil) (eq_nostar he)) h3 h2 (eq_nostar he) rfl).imp fun σ H Q ⟨β, env, S, hS, hE, hp⟩ => ?_
        rw [ev] at hp
        refine ⟨β, env, S, hS, hE, (PostE.bnd hp).mono fun v H1 ⟨β1, S1, w, x1, s1, r1, hp1⟩ => ?_⟩
        refine ⟨by show 2 ≤ sizeLine; decide, fun p hp => ?_⟩
        cases hi : isTY .intStr w S1 with
        | none => rw [hi] at hp1; exact hp1.elim
        | some b =>
          rw [hi] at hp1
          obtain ⟨n, q1, q2⟩ := ty_of (s1.new hp (o := .tup [.ty "int", .ty "str"])) (Rep.ext (Ext.new hp) _ _ r1) hi
          refine ⟨v, p, _, .type n, [.type "int", .type "str"], b, rfl, upd_same, .cons (.ty _) (.cons (.ty _) .nil), .base (by rw [g.K]; exact q1), kit_str hi q2, ?_⟩
          exact hp1 β1 _ (.bl b) (Ext.new hp) (s1.new hp) rfl
    | _ => simp [tyB] at ht
end
end Mi
/-! MiC10: methods of built-in objects. -/
namespace Mi
open PySem PySem.Spec PyProof.Rows L2

def rMt (W : Wd) (EX : XK) (m : MT) : V → List V → Hp → VK → Prop := fun x xs H Q => ∃ β S o vs, SR W.K β H S ∧ Rep W.K β H o x ∧ Reps W.K β H vs xs ∧ PostE W EX β H (mtOp m o vs S) Q
section
variable {W : Wd} {EX : XK} {X : Cx}
theorem m_append : MtR X "list.append" (rMt W EX .append) := by
  intro pins s σ H x xs v us Q I rx rxs ⟨β, S, o, vs, hS, ro, rv, hp⟩
  have sh : (∃ n t ts, o = .ref n ∧ vs = [t] ∧ S[n]? = some (.lst ts) ∧ ts.length < line ∧ mtOp .append o vs S = .ok .non (S.set n (.lst (ts ++ [t])))) ∨ mtOp .append o vs S = .fail := by
    match o, vs with
    | .ref n, [t] =>
      simp only [mtOp]
      cases hn : S[n]? with
      | none => simp
      | some mo =>
        cases mo with
        | dct _ => simp
        | lst ts =>
          simp only
          by_cases hl : ts.length < line
          · exact .inl ⟨n, t, ts, rfl, rfl, hn, hl, by rw [if_pos hl]⟩
          · exact .inr (by rw [if_neg hl])
    | .ref _, [] => exact .inr rfl
    | .ref _, _ :: _ :: _ => exact .inr rfl
    | .non, _ => exact .inr rfl
    | .bl _, _ => exact .inr rfl
    | .int _, _ => exact .inr rfl
    | .str _, _ => exact .inr rfl
    | .tup _, _ => exact .inr rfl
    | .lst _, _ => exact .inr rfl
    | .scr _, _ => exact .inr rfl
  rcases sh with ⟨n, t, ts, rfl, rfl, hn, hl, e⟩ | e
  case inr => rw [e] at hp; exact hp.elim
  rw [e] at hp
  obtain ⟨a, ea, hb⟩ := ro
  obtain ⟨w, ew, rw'⟩ := reps1 rv
  obtain ⟨a', ha', hz, ws, hw, hr⟩ := hS.at hn
  rw [hb] at ha'
  cases ha'
  have hm : a ∈ β.l := List.mem_of_getElem? hb
  have x1 : Ext β H β (upd H a (.lst (ws ++ [w]))) := Ext.set hm
  refine mt_append pins s σ H x xs v us Q I rx rxs ⟨a, ws, w, ea, ew, hw, by rw [← hr.length]; exact Nat.lt_of_lt_of_le hl (by rw [line_eq]; exact Nat.le_refl _), ?_⟩
  refine hp β _ .non x1 (hS.set hb ⟨?_, ws ++ [w], upd_same, Reps.ext x1 _ _ (hr.append (.one rw'))⟩) rfl
  rw [List.length_append]
  exact hl
theorem m_extend : MtR X "list.extend" (rMt W EX .extend) := by
  intro pins s σ H x xs v us Q I rx rxs ⟨β, S, o, vs, hS, ro, rv, hp⟩
  have sh : (∃ n t ts us, o = .ref n ∧ vs = [t] ∧ S[n]? = some (.lst ts) ∧ lstOf S t = some us ∧ ts.length + us.length ≤ line ∧ mtOp .extend o vs S = .ok .non (S.set n (.lst (ts ++ us)))) ∨ mtOp .extend o vs S = .fail := by
    match o, vs with
    | .ref n, [t] =>
      simp only [mtOp]
      cases hn : S[n]? with
      | none => simp
      | some mo =>
        cases mo with
        | dct _ => simp
        | lst ts =>
          cases hu : lstOf S t with
          | none => simp
          | some us =>
            simp only
            by_cases hl : ts.length + us.length ≤ line
            · exact .inl ⟨n, t, ts, us, rfl, rfl, hn, hu, hl, by rw [if_pos hl]⟩
            · exact .inr (by rw [if_neg hl])
    | .ref _, [] => exact .inr rfl
    | .ref _, _ :: _ :: _ => exact .inr rfl
    | .non, _ => exact .inr rfl
    | .bl _, _ => exact .inr rfl
    | .int _, _ => exact .inr rfl
    | .str _, _ => exact .inr rfl
    | .tup _, _ => exact .inr rfl
    | .lst _, _ => exact .inr rfl
    | .scr _, _ => exact .inr rfl
  rcases sh with ⟨n, t, ts, us2, rfl, rfl, hn, hu, hl, e⟩ | e
  case inr => rw [e] at hp; exact hp.elim
  rw [e] at hp
  obtain ⟨a, ea, hb⟩ := ro
  obtain ⟨w, ew, rw'⟩ := reps1 rv
  obtain ⟨a', ha', hz, ws, hw, hr⟩ := hS.at hn
  rw [hb] at ha'
  cases ha'
  obtain ⟨_, b, zs, eb, hzs, hrz⟩ := view_lst hS rw' (view_ref_lst hu)
  have hm : a ∈ β.l := List.mem_of_getElem? hb
  have x1 : Ext β H β (upd H a (.lst (ws ++ zs))) := Ext.set hm
  refine mt_extend pins s σ H x xs v us Q I rx rxs ⟨a, b, ws, zs, ea, by rw [ew, eb], hw, hzs, by rw [← hr.length, ← hrz.length]; exact le_line hl, ?_⟩
  refine hp β _ .non x1 (hS.set hb ⟨?_, ws ++ zs, upd_same, Reps.ext x1 _ _ (hr.append hrz)⟩) rfl
  rw [List.length_append]
  exact hl
theorem dict_shape {S : Store} {o : T} (h : (match o with | .ref n => (match S[n]? with | some (.dct _) => true | _ => false) | _ => false) = true) : ∃ n kvs, o = .ref n ∧ S[n]? = some (.dct kvs) := by
  cases o with
  | ref n =>
    simp only at h
    cases hn : S[n]? with
    | none => rw [hn] at h; cases h
    | some mo =>
      cases mo with
      | lst _ => rw [hn] at h; cases h
      | dct kvs => exact ⟨n, kvs, rfl, hn⟩
  | _ => cases h
end
theorem backTo_2 {a b : Expr} {env : PySem.Env} {pos : Pos} (h1 : starEach [a, b] env = (false, eval a env) :: starEach [b] env) (h2 : starEach [b] env = (false, eval b env) :: starEach [] env) : backTo pos (starEach [a, b] env) = [(false, eval a env), (false, eval b env)] := by
  rw [h1, h2]; rfl
theorem m2_of {X : Cx} {Z : Sc} {mo m1 m2 : ME} {o a b : Expr} {n : Str} {ap cp : Pos} (ho : eqE mo Z o = true) (h1 : eqE m1 Z a = true) (h2 : eqE m2 Z b = true) (hl : (ap.endLine == cp.line) = true) : M2 X o n ap a b cp := by
  have e := backTo_2 (pos := cp) (eq_nostar (env := X.env) (es := [b]) h1) (eq_nostar (env := X.env) (es := []) h2)
  refine ⟨base_of ho n X.env _, ?_, hl, e⟩
  rw [e]
  rfl
section
variable {W : Wd} {d : Nat} {EX : XK} {X : Cx} {Z : Sc} (g : Good W d X Z EX)
include g
theorem hu_g : X.A.units + 1 < cLine := by have := room_eq (n := 0) g.room (Nat.zero_le _); omega
theorem snd_get {mo m1 m2 : ME} {o a b : Expr} {ap cp : Pos} (ho : eqE mo Z o = true) (h1 : eqE m1 Z a = true) (h2 : eqE m2 Z b = true) (hl : (ap.endLine == cp.line) = true)
    (po : PE X o (tE W d EX mo)) (pa : PE X a (tE W d EX m1)) (pb : PE X b (tE W d EX m2)) : PE X (.Call (.Attribute o "get" ap) [a, b] [] cp) (tE W d EX (.mt .get mo [m1, m2])) :=
  (pe_dget2 (hu_g g) po pa pb (m2_of ho h1 h2 hl)).imp fun σ H Q ⟨β, env, S, hS, hE, hp⟩ => by
    rw [ev] at hp
    refine ⟨β, env, S, hS, hE, (PostE.bnd hp).mono fun x H1 ⟨β1, S1, v, x1, s1, r1, hp1⟩ => ?_⟩
    by_cases hpre : mtPre .get v S1 = true
    case neg => rw [if_neg hpre] at hp1; exact hp1.elim
    rw [if_pos hpre] at hp1
    obtain ⟨n, kvs, e, hn⟩ := dict_shape hpre
    subst e
    obtain ⟨p, e, hb⟩ := r1
    obtain ⟨p', hb', _, ws, hw, hr⟩ := s1.at hn
    rw [hb] at hb'
    cases hb'
    refine ⟨p, e, .inl ⟨ws, .inl hw⟩, ?_⟩
    simp only [evs, bnd_assoc, bnd_ok] at hp1
    refine ⟨β1, env, S1, s1, hE.ext x1, (PostE.bnd hp1).mono fun y H2 ⟨β2, S2, v2, x2, s2, r2, hp2⟩ => ⟨β2, env, S2, s2, hE.ext (x1.trans x2), (PostE.bnd hp2).mono fun z H3 ⟨β3, S3, v3, x3, s3, r3, hp3⟩ => ?_⟩⟩
    have hb3 := (x2.trans x3).get hb
    simp only [mtOp] at hp3
    cases hn3 : S3[n]? with
    | none => rw [hn3] at hp3; exact hp3.elim
    | some mo3 =>
      cases mo3 with
      | lst _ => rw [hn3] at hp3; exact hp3.elim
      | dct kvs3 =>
        rw [hn3] at hp3
        simp only at hp3
        by_cases hk : keyB v2 = true
        case neg => rw [if_neg hk] at hp3; exact hp3.elim
        rw [if_pos hk] at hp3
        obtain ⟨k, ek⟩ := keyB_of hk
        obtain ⟨p3, hb4, _, ws3, hw3, hr3⟩ := s3.at hn3
        rw [hb3] at hb4
        cases hb4
        have r2' := Rep.ext x3 _ _ r2
        rw [rep_key ek r2']
        refine ⟨_, DGet.k hw3, ?_⟩
        rcases kreps_get ek hr3 with ⟨e1, e2⟩ | ⟨t, w, e1, e2, rt⟩
        · rw [e2]
          rw [e1] at hp3
          exact hp3.here s3 r3
        · rw [e2]
          rw [e1] at hp3
          exact hp3.here s3 rt
theorem snd_setdefault {mo m1 m2 : ME} {o a b : Expr} {ap cp : Pos} (ho : eqE mo Z o = true) (h1 : eqE m1 Z a = true) (h2 : eqE m2 Z b = true) (hl : (ap.endLine == cp.line) = true)
    (po : PE X o (tE W d EX mo)) (pa : PE X a (tE W d EX m1)) (pb : PE X b (tE W d EX m2)) : PE X (.Call (.Attribute o "setdefault" ap) [a, b] [] cp) (tE W d EX (.mt .setdefault mo [m1, m2])) :=
  (pe_dsetd po pa pb (m2_of ho h1 h2 hl)).imp fun σ H Q ⟨β, env, S, hS, hE, hp⟩ => by
    rw [ev] at hp
    refine ⟨β, env, S, hS, hE, (PostE.bnd hp).mono fun x H1 ⟨β1, S1, v, x1, s1, r1, hp1⟩ => ?_⟩
    by_cases hpre : mtPre .setdefault v S1 = true
    case neg => rw [if_neg hpre] at hp1; exact hp1.elim
    rw [if_pos hpre] at hp1
    obtain ⟨n, kvs, e, hn⟩ := dict_shape hpre
    subst e
    obtain ⟨p, e, hb⟩ := r1
    obtain ⟨p', hb', _, ws, hw, hr⟩ := s1.at hn
    rw [hb] at hb'
    cases hb'
    refine ⟨p, e, .inl ⟨ws, .inl hw⟩, ?_⟩
    simp only [evs, bnd_assoc, bnd_ok] at hp1
    refine ⟨β1, env, S1, s1, hE.ext x1, (PostE.bnd hp1).mono fun y H2 ⟨β2, S2, v2, x2, s2, r2, hp2⟩ => ⟨β2, env, S2, s2, hE.ext (x1.trans x2), (PostE.bnd hp2).mono fun z H3 ⟨β3, S3, v3, x3, s3, r3, hp3⟩ => ?_⟩⟩
    have hb3 := (x2.trans x3).get hb
    simp only [mtOp] at hp3
    cases hn3 : S3[n]? with
    | none => rw [hn3] at hp3; exact hp3.elim
    | some mo3 =>
      cases mo3 with
      | lst _ => rw [hn3] at hp3; exact hp3.elim
      | dct kvs3 =>
        rw [hn3] at hp3
        simp only at hp3
        by_cases hk : keyB v2 = true ∧ kvs3.length < line
        case neg => rw [if_neg hk] at hp3; exact hp3.elim
        rw [if_pos hk] at hp3
        obtain ⟨k, ek⟩ := keyB_of hk.1
        obtain ⟨p3, hb4, hl3, ws3, hw3, hr3⟩ := s3.at hn3
        rw [hb3] at hb4
        cases hb4
        have r2' := Rep.ext x3 _ _ r2
        have hm : p ∈ β3.l := List.mem_of_getElem? hb3
        refine ⟨ws3, k, hw3, rep_key ek r2', by rw [← kreps_len hr3]; exact Nat.lt_of_lt_of_le hk.2 (by rw [line_eq]; exact Nat.le_refl _), ?_⟩
        rcases kreps_get ek hr3 with ⟨e1, e2⟩ | ⟨t, w, e1, e2, rt⟩
        · rw [e1] at hp3
          refine ⟨fun v hv => (by rw [e2] at hv; cases hv), fun _ => ?_⟩
          have xs1 : Ext β3 H3 β3 (upd H3 p (.dK (putK ws3 k z))) := Ext.set hm
          have rk : Rep W.K β3 H3 v2 (kV k) := by rw [← rep_key ek r2']; exact r2'
          refine hp3 β3 _ z xs1 (s3.set hb3 ⟨?_, _, upd_same, (kreps_put ek rk r3 hr3).ext xs1⟩) (Rep.ext xs1 _ _ r3)
          have := dput_len kvs3 v2 v3
          have := hk.2
          omega
        · rw [e1] at hp3
          exact ⟨fun v hv => (by rw [e2] at hv; cases hv; exact hp3.here s3 rt), fun h => (by rw [e2] at h; cases h)⟩
/-- a method of one argument of a list -/
theorem snd_m1 {mt : MT} {id : String} {mo m1 : ME} {o a : Expr} {ap cp : Pos} (hid : Slot "list" (mtName mt) id) (hty : typeOf (.builtin id) = pure (.type "method_descriptor")) (hm : MtR X id (rMt W EX mt)) (hpre : ∀ v S, mtPre mt v S = (lstOf S v).isSome)
    (ho : eqE mo Z o = true) (h1 : eqE m1 Z a = true) (hl : (ap.endLine == cp.line) = true)
    (po : PE X o (tE W d EX mo)) (pa : PE X a (tE W d EX m1)) : PE X (.Call (.Attribute o (mtName mt) ap) [a] [] cp) (tE W d EX (.mt mt mo [m1])) := by
  have e1 := eq_nostar (env := X.env) (es := []) h1
  refine (pe_bm PySem.F.plainAttrs_list hid hty hm po (sndA_cons pa sndA_nil (fun env => eq_nostar h1)) (base_of ho _ X.env _) (by rw [e1]; rfl) hl e1 rfl).imp fun σ H Q ⟨β, env, S, hS, hE, hp⟩ => ?_
  rw [ev] at hp
  refine ⟨β, env, S, hS, hE, (PostE.bnd hp).mono fun x H1 ⟨β1, S1, v, x1, s1, r1, hp1⟩ => ?_⟩
  by_cases hq : mtPre mt v S1 = true
  case neg => rw [if_neg hq] at hp1; exact hp1.elim
  rw [if_pos hq] at hp1
  rw [hpre] at hq
  cases hl : lstOf S1 v with
  | none => rw [hl] at hq; cases hq
  | some ts =>
    obtain ⟨_, p, ws, ex, hw, hr⟩ := view_lst s1 r1 (view_ref_lst hl)
    refine ⟨by rw [ex]; exact .inl ⟨rfl, ws, .of hw⟩, β1, env, S1, s1, hE.ext x1, (PostA.bnd hp1).mono fun xs H2 ⟨β2, S2, vs, x2, s2, r2, hp2⟩ => ?_⟩
    exact ⟨β2, S2, v, vs, s2, Rep.ext x2 _ _ r1, r2, hp2⟩
end
end Mi
/-! MiC11: what a loop walks. -/
namespace Mi
open PySem PySem.Spec PyProof.Rows L2

/-- the heap has gone on: what is neither of the store nor held stands -/
structure Gr (β : Be) (H : Hp) (β' : Be) (H' : Hp) : Prop where
  pre : ∃ ys, β'.l = β.l ++ ys
  keep : ∀ a o, H a = some o → a ∉ β → H' a = some o ∧ a ∉ β'
section
variable {K : PySem.W.Frag} {β β' β1 γ : Be} {H H' H1 : Hp} {D : Addr} {o : HO}
theorem Ext.gr (x : Ext β H β' H') : Gr β H β' H' := ⟨x.pre, fun a o h n => x.keep' h n⟩
theorem Gr.refl : Gr β H β H := Ext.refl.gr
theorem Gr.trans {β2 : Be} {H2 : Hp} (a : Gr β H β' H') (b : Gr β' H' β2 H2) : Gr β H β2 H2 := by
  obtain ⟨ys, e⟩ := a.pre
  obtain ⟨zs, e'⟩ := b.pre
  refine ⟨⟨ys ++ zs, by rw [e', e, List.append_assoc]⟩, fun x o h n => ?_⟩
  obtain ⟨h1, n1⟩ := a.keep x o h n
  exact b.keep x o h1 n1
theorem Gr.get (a : Gr β H β' H') {n : Nat} {x : Addr} (h : β.l[n]? = some x) : β'.l[n]? = some x := by
  obtain ⟨ys, e⟩ := a.pre
  have hl := (List.getElem?_eq_some_iff.mp h).1
  rw [e, List.getElem?_append_left hl]
  exact h
mutual
theorem Rep.gr (x : Gr β H β' H') : ∀ (t : T) (v : V), Rep K β H t v → Rep K β' H' t v
  | .non, _, h => h
  | .bl _, _, h => h
  | .int _, _, h => h
  | .str _, _, h => h
  | .tup ts, v, ⟨hl, a, vs, e, h, n, r⟩ => by
    obtain ⟨h', n'⟩ := x.keep a _ h n
    exact ⟨hl, a, vs, e, h', n', Reps.gr x ts vs r⟩
  | .lst ts, v, ⟨hl, a, vs, e, h, n, r⟩ => by
    obtain ⟨h', n'⟩ := x.keep a _ h n
    exact ⟨hl, a, vs, e, h', n', Reps.gr x ts vs r⟩
  | .scr ns, v, ⟨hl, a, e, h⟩ => by
    refine ⟨hl, a, e, ?_⟩
    rcases h with ⟨h | ⟨o', h⟩, n⟩ | h
    · exact .inl ⟨.inl (x.keep a _ h n).1, (x.keep a _ h n).2⟩
    · exact .inl ⟨.inr ⟨o', (x.keep a _ h n).1⟩, (x.keep a _ h n).2⟩
    · exact .inr h
  | .ref n, v, ⟨a, e, h⟩ => ⟨a, e, x.get h⟩
theorem Reps.gr (x : Gr β H β' H') : ∀ (ts : List T) (vs : List V), Reps K β H ts vs → Reps K β' H' ts vs
  | [], _, h => h
  | t :: ts, _, ⟨v, r, e, h, hs⟩ => ⟨v, r, e, Rep.gr x t v h, Reps.gr x ts r hs⟩
end
theorem KReps.gr (x : Gr β H β' H') : ∀ {ps : List (T × T)} {ws : List (Key × V)}, KReps K β H ps ws → KReps K β' H' ps ws
  | [], _, h => h
  | p :: r, _, ⟨k, v, ws', e, hk, h1, h2, hs⟩ => ⟨k, v, ws', e, hk, Rep.gr x _ _ h1, Rep.gr x _ _ h2, KReps.gr x hs⟩
theorem SR.gr {S : Store} (h : SR K β H S) (x : Gr β H β' H') (hl : β'.l = β.l) (hk : ∀ a ∈ β.l, H' a = H a) (hr : ∀ a ∈ β'.r, a ∉ β'.l ∧ ∃ o, H' a = some o) : SR K β' H' S := by
  refine ⟨by rw [hl]; exact h.len, by rw [hl]; exact h.nd, fun n mo a e1 e2 => ?_, hr⟩
  rw [hl] at e2
  have q := h.obj n mo a e1 e2
  have e := hk a (List.mem_of_getElem? e2)
  cases mo with
  | lst ts =>
    obtain ⟨hl, vs, hv, r⟩ := q
    exact ⟨hl, vs, by rw [e]; exact hv, Reps.gr x _ _ r⟩
  | dct kvs =>
    obtain ⟨hl, ws, hv, r⟩ := q
    exact ⟨hl, ws, by rw [e]; exact hv, KReps.gr x r⟩
theorem not_hold {a : Addr} : a ∉ β.hold D ↔ a ≠ D ∧ a ∉ β := by
  constructor
  · intro h
    refine ⟨fun e => h (.inr (by rw [e]; exact List.mem_cons_self)), fun m => ?_⟩
    rcases m with m | m
    · exact h (.inl m)
    · exact h (.inr (List.mem_cons_of_mem _ m))
  · rintro ⟨h1, h2⟩ m
    rcases m with m | m
    · exact h2 (.inl m)
    · rcases List.mem_cons.mp m with m | m
      · exact h1 m
      · exact h2 (.inr m)
theorem Gr.hold (hD : H D = none) : Gr β H (β.hold D) (upd H D o) :=
  ⟨⟨[], by simp [Be.hold]⟩, fun a u h n => by
    have e := ne_of_none h hD
    exact ⟨by rw [upd_ne e]; exact h, not_hold.mpr ⟨e, n⟩⟩⟩
theorem Gr.upd : Gr (β.hold D) H (β.hold D) (upd H D o) :=
  ⟨⟨[], by simp⟩, fun a u h n => ⟨by rw [upd_ne (not_hold.mp n).1]; exact h, n⟩⟩
theorem Gr.free : Gr (β.hold D) H β H := ⟨⟨[], by simp [Be.hold]⟩, fun a u h n => ⟨h, (not_hold.mp n).2⟩⟩
theorem Gr.push : Gr (β.hold D) H (β.push D) H :=
  ⟨⟨[D], rfl⟩, fun a u h n => ⟨h, fun m => by
    rcases m with m | m
    · rcases List.mem_append.mp m with m | m
      · exact n (.inl m)
      · exact (not_hold.mp n).1 (List.mem_singleton.mp m)
    · exact n (.inr (List.mem_cons_of_mem _ m))⟩⟩
theorem SR.hold {S : Store} (h : SR K β H S) (hD : H D = none) : SR K (β.hold D) (upd H D o) S := by
  refine h.gr (Gr.hold hD) rfl (fun a ha => ?_) fun a ha => ?_
  · obtain ⟨n, e⟩ := List.mem_iff_getElem?.mp ha
    obtain ⟨u, hu⟩ := h.there e
    rw [upd_ne (ne_of_none hu hD)]
  · rcases List.mem_cons.mp ha with e | ha
    · subst e
      exact ⟨fun m => h.fresh hD (.inl m), o, upd_same ..⟩
    · obtain ⟨h1, u, hu⟩ := h.res a ha
      exact ⟨h1, u, by rw [upd_ne (ne_of_none hu hD)]; exact hu⟩
theorem SR.held {S : Store} (h : SR K (β.hold D) H S) : SR K (β.hold D) (L2.upd H D o) S := by
  have hD : D ∉ β.l := (h.res D List.mem_cons_self).1
  refine h.gr Gr.upd rfl (fun a ha => ?_) fun a ha => ?_
  · rw [upd_ne (fun e => hD (by rw [← e]; exact ha))]
  · obtain ⟨h1, u, hu⟩ := h.res a ha
    refine ⟨h1, ?_⟩
    by_cases e : a = D
    · exact ⟨o, by rw [e]; exact upd_same ..⟩
    · exact ⟨u, by rw [upd_ne e]; exact hu⟩
theorem SR.free {S : Store} (h : SR K (β.hold D) H S) : SR K β H S :=
  h.gr Gr.free rfl (fun _ _ => rfl) fun a ha => h.res a (List.mem_cons_of_mem _ ha)
theorem SR.freeS {S : Store} {mo : MO} (h : SR K (β.hold D) H S) (hr : D ∉ β.r) (hn : ORep K (β.push D) H mo D) : SR K (β.push D) H (S ++ [mo]) := by
  have hD : D ∉ β.l := (h.res D List.mem_cons_self).1
  have hlen : β.l.length = S.length := h.len
  refine ⟨by show (β.l ++ [D]).length = _; rw [List.length_append, List.length_append, hlen] <;> rfl, ?_, fun n m a e1 e2 => ?_, fun a ha => ?_⟩
  · show (β.l ++ [D]).Nodup
    rw [List.nodup_append]
    refine ⟨h.nd, by simp, fun a ha b hb => ?_⟩
    intro e
    rw [e, List.mem_singleton.mp hb] at ha
    exact hD ha
  · have e2 : (β.l ++ [D])[n]? = some a := e2
    by_cases hl : n < S.length
    · rw [List.getElem?_append_left hl] at e1
      rw [List.getElem?_append_left (by rw [hlen]; exact hl)] at e2
      have q := h.obj n m a e1 e2
      cases m with
      | lst ts =>
        obtain ⟨hl, vs, hv, r⟩ := q
        exact ⟨hl, vs, hv, Reps.gr Gr.push _ _ r⟩
      | dct kvs =>
        obtain ⟨hl, ws, hv, r⟩ := q
        exact ⟨hl, ws, hv, KReps.gr Gr.push r⟩
    · have hle : S.length ≤ n := Nat.le_of_not_lt hl
      rw [List.getElem?_append_right hle] at e1
      rw [List.getElem?_append_right (by rw [hlen]; exact hle), hlen] at e2
      have hz : n - S.length = 0 := by
        have := (List.getElem?_eq_some_iff.mp e1).1
        simp at this
        omega
      rw [hz] at e1 e2
      have e1' : mo = m := Option.some.inj e1
      have e2' : D = a := Option.some.inj e2
      rw [← e1', ← e2']
      exact hn
  · obtain ⟨h1, u, hu⟩ := h.res a (List.mem_cons_of_mem _ ha)
    refine ⟨fun m => ?_, u, hu⟩
    rcases List.mem_append.mp m with m | m
    · exact h1 m
    · rw [List.mem_singleton.mp m] at ha
      exact hr ha
/-- at a held place nothing of the rest is changed -/
theorem Ext.hold_inv (x : Ext (γ.hold D) H β' H') : ∃ γ', β' = γ'.hold D ∧ Ext γ H γ' H' := by
  refine ⟨⟨β'.l, γ.r⟩, ?_, ⟨x.pre, rfl, fun a o h n => x.keep a o h n⟩⟩
  have e : β'.r = D :: γ.r := x.same
  cases β' with
  | mk l r => simp only [Be.hold] at e ⊢; rw [e]
theorem Ext.skip (hD : H1 D = none) (x : Ext β1 H1 γ H) : Ext β1 H1 γ (L2.upd H D o) :=
  ⟨x.pre, x.same, fun a u h n => by
    obtain ⟨h1, h2⟩ := x.keep a u h n
    exact ⟨by rw [upd_ne (ne_of_none h hD)]; exact h1, h2⟩⟩
theorem Ext.holdGr (hD : H1 D = none) (x : Ext β1 H1 γ H) : Gr β1 H1 (γ.hold D) H :=
  ⟨x.pre, fun a u h n => by
    obtain ⟨h1, h2⟩ := x.keep' h n
    exact ⟨h1, not_hold.mpr ⟨ne_of_none h hD, h2⟩⟩⟩

/-! ### sources -/
/-- J walks the items xs, from (β0, H0) on -/
structure Src (K : PySem.W.Frag) (J : It) (xs : List T) (ck : Store → Bool) (β0 : Be) (H0 : Hp) : Prop where
  len : xs.length ≤ line
  go : ∀ (β : Be) (H : Hp) (S : Store) (i : Nat), Gr β0 H0 β H → SR K β H S → ck S = true → i < xs.length → J.go i H
  stop : ∀ (β : Be) (H : Hp) (S : Store), Gr β0 H0 β H → SR K β H S → ck S = true → J.stop xs.length H
  yld : ∀ (β : Be) (H : Hp) (S : Store) (i : Nat) (t : T) (x : V) (H' : Hp), Gr β0 H0 β H → SR K β H S → ck S = true → xs[i]? = some t → J.yld i H x H' → Ext β H β H' ∧ SR K β H' S ∧ Rep K β H' t x
theorem reps_ix {ts : List T} {vs : List V} (r : Reps K β H ts vs) {i : Nat} (h : i < ts.length) : ∃ v, vs[i]? = some v := by
  obtain ⟨v, e, _⟩ := r.get (List.getElem?_eq_getElem h)
  exact ⟨v, e⟩
theorem src_tup {ck : Store → Bool} {a : Addr} {ts : List T} {vs : List V} (hl : ts.length ≤ line) (h : H a = some (.tup vs)) (n : a ∉ β) (r : Reps K β H ts vs) : Src K (Itt K a) ts ck β H where
  len := hl
  go := fun β' H' S i x s c hi => by
    obtain ⟨v, e⟩ := reps_ix r hi
    exact ⟨vs, v, .inl (.inl (x.keep a _ h n).1), e⟩
  stop := fun β' H' S x s c => ⟨vs, .inl (.inl (x.keep a _ h n).1), by rw [r.length] <;> exact Nat.le_refl _⟩
  yld := fun β' H' S i t v H2 x s c e y => by
    obtain ⟨e1, y⟩ := y
    subst e1
    have y1 := y vs (.inl (.inl (x.keep a _ h n).1))
    obtain ⟨w, e2, rw1⟩ := (Reps.gr x _ _ r).get e
    rw [e2] at y1
    cases y1
    exact ⟨Ext.refl, s, rw1⟩
theorem src_lst {ck : Store → Bool} {a : Addr} {ts : List T} {vs : List V} (hl : ts.length ≤ line) (h : H a = some (.lst vs)) (n : a ∉ β) (r : Reps K β H ts vs) : Src K (Itl K a) ts ck β H where
  len := hl
  go := fun β' H' S i x s c hi => by
    obtain ⟨v, e⟩ := reps_ix r hi
    exact ⟨vs, v, .inl (.inl (x.keep a _ h n).1), e⟩
  stop := fun β' H' S x s c => ⟨vs, .inl (.inl (x.keep a _ h n).1), by rw [r.length] <;> exact Nat.le_refl _⟩
  yld := fun β' H' S i t v H2 x s c e y => by
    obtain ⟨e1, y⟩ := y
    subst e1
    have y1 := y vs (.inl (.inl (x.keep a _ h n).1))
    obtain ⟨w, e2, rw1⟩ := (Reps.gr x _ _ r).get e
    rw [e2] at y1
    cases y1
    exact ⟨Ext.refl, s, rw1⟩
theorem scr_at {ns : List Int} {v : V} (ra : Rep K β H (.scr ns) v) : ∃ p, v = .ref p ∧ SqL K H p (ns.map V.int) := by
  obtain ⟨_, p, e1, q⟩ := ra
  refine ⟨p, e1, ?_⟩
  rcases q with ⟨q, _⟩ | q
  · exact .inl q
  · exact .inr q
theorem src_scr {ck : Store → Bool} {a : Addr} {ns : List Int} (h : Rep K β H (.scr ns) (.ref a)) : Src K (Itl K a) (ns.map T.int) ck β H := by
  have at' : ∀ {β' : Be} {H' : Hp}, Gr β H β' H' → SqL K H' a (ns.map V.int) := fun x => by
    obtain ⟨p, e, q⟩ := scr_at (Rep.gr x _ _ h)
    cases e
    exact q
  refine ⟨by rw [List.length_map]; exact h.1, fun β' H' S i x s c hi => ?_, fun β' H' S x s c => ⟨_, at' x, by simp⟩, fun β' H' S i t v H2 x s c e y => ?_⟩
  · have hi' : i < (ns.map V.int).length := by simpa using hi
    exact ⟨_, _, at' x, List.getElem?_eq_getElem hi'⟩
  · obtain ⟨e1, y⟩ := y
    subst e1
    have y1 := y _ (at' x)
    rw [List.getElem?_map] at e y1
    cases hn : ns[i]? with
    | none => rw [hn] at e; cases e
    | some j =>
      rw [hn] at e y1
      cases e
      cases y1
      exact ⟨Ext.refl, s, rfl⟩
theorem src_ref {n : Nat} {a : Addr} {xs : List T} (hl : xs.length ≤ line) (h : β.l[n]? = some a) : Src K (Itl K a) xs (still (some n) xs) β H := by
  have at' : ∀ {β' : Be} {H' : Hp} {S : Store}, Gr β H β' H' → SR K β' H' S → still (some n) xs S = true → ∃ vs, H' a = some (.lst vs) ∧ Reps K β' H' xs vs := fun {β' H' S} x s c => by
    have e : S[n]? = some (.lst xs) := of_decide_eq_true c
    obtain ⟨_, vs, hv, r⟩ := s.obj n _ a e (x.get h)
    exact ⟨vs, hv, r⟩
  refine ⟨hl, fun β' H' S i x s c hi => ?_, fun β' H' S x s c => ?_, fun β' H' S i t v H2 x s c e y => ?_⟩
  · obtain ⟨vs, hv, r⟩ := at' x s c
    obtain ⟨v, e⟩ := reps_ix r hi
    exact ⟨vs, v, .inl (.inl hv), e⟩
  · obtain ⟨vs, hv, r⟩ := at' x s c
    exact ⟨vs, .inl (.inl hv), by rw [r.length] <;> exact Nat.le_refl _⟩
  · obtain ⟨vs, hv, r⟩ := at' x s c
    obtain ⟨e1, y⟩ := y
    subst e1
    have y1 := y vs (.inl (.inl hv))
    obtain ⟨w, e2, rw1⟩ := r.get e
    rw [e2] at y1
    cases y1
    exact ⟨Ext.refl, s, rw1⟩
theorem src_str {ck : Store → Bool} {s : List Char} (hl : s.length ≤ line) : Src K (Its (toStr s)) (s.map fun c => T.str [c]) ck β H := by
  have hz : (toStr s).cps.size = s.length := by simp [toStr, codes]
  refine ⟨by rw [List.length_map]; exact hl, fun β' H' S i x _ c hi => ?_, fun β' H' S x _ c => ?_, fun β' H' S i t v H2 x sr c e y => ?_⟩
  · show i < _
    rw [hz]; simpa using hi
  · show _ ≤ _
    rw [hz]; simp
  · obtain ⟨e1, k, y1, y2⟩ := y
    subst e1 y2
    rw [List.getElem?_map] at e
    cases hn : s[i]? with
    | none => rw [hn] at e; cases e
    | some j =>
      rw [hn] at e
      cases e
      refine ⟨Ext.refl, sr, ?_, (by show 1 ≤ line; decide)⟩
      have e3 : (toStr s).cps[i]? = some j.toNat := by simp [toStr, codes, hn]
      rw [e3] at y1
      cases y1
      rfl
theorem rangeL_ix {lo c : Int} {n i : Nat} {t : T} (e : (rangeL lo n c)[i]? = some t) : i < n ∧ t = .int (lo + (i : Nat) * c) := by
  unfold rangeL at e
  rw [List.getElem?_map] at e
  by_cases h : i < n
  · rw [List.getElem?_range h] at e
    exact ⟨h, (Option.some.inj e).symm⟩
  · rw [List.getElem?_eq_none (by simpa using h)] at e
    cases e
theorem rangeL_len {lo c : Int} {n : Nat} : (rangeL lo n c).length = n := by simp [rangeL]
theorem src_rng {ck : Store → Bool} {lo : Int} {n : Nat} (hl : n ≤ line) : Src K (Itr lo n) (rangeL lo n 1) ck β H := by
  refine ⟨by rw [rangeL_len]; exact hl, fun β' H' S i x _ c hi => ?_, fun β' H' S x _ c => ?_, fun β' H' S i t v H2 x sr c e y => ?_⟩
  · rw [rangeL_len] at hi; exact hi
  · rw [rangeL_len]; exact Nat.le_refl _
  · obtain ⟨e1, y⟩ := y
    obtain ⟨_, e2⟩ := rangeL_ix e
    subst e1 y e2
    refine ⟨Ext.refl, sr, ?_⟩
    show V.int _ = V.int _
    rw [Int.mul_one]
theorem enum_len : ∀ {xs : List T} {k : Nat}, (enumFrom k xs).length = xs.length
  | [], _ => rfl
  | x :: r, k => by unfold enumFrom; rw [List.length_cons, List.length_cons, enum_len]
theorem enum_ix : ∀ {xs : List T} {k i : Nat} {t : T}, (enumFrom k xs)[i]? = some t → ∃ x, xs[i]? = some x ∧ t = .tup [.int ((k + i : Nat)), x]
  | [], _, _, _, e => by simp [enumFrom] at e
  | x :: r, k, 0, t, e => by
    unfold enumFrom at e
    exact ⟨x, rfl, (Option.some.inj e).symm⟩
  | x :: r, k, i + 1, t, e => by
    unfold enumFrom at e
    obtain ⟨y, h1, h2⟩ := enum_ix (xs := r) (k := k + 1) (i := i) e
    exact ⟨y, h1, by rw [h2, show k + 1 + i = k + (i + 1) by omega]⟩
theorem pair_new {S : Store} {T0 : Addr} {x y : V} {t u : T} (s : SR K β H S) (hT : H T0 = none) (r1 : Rep K β H t x) (r2 : Rep K β H u y) :
    Ext β H β (L2.upd H T0 (.tup [x, y])) ∧ SR K β (L2.upd H T0 (.tup [x, y])) S ∧ Rep K β (L2.upd H T0 (.tup [x, y])) (.tup [t, u]) (.ref T0) := by
  have ex : Ext β H β (L2.upd H T0 (.tup [x, y])) := Ext.new hT
  refine ⟨ex, s.new hT, by show 2 ≤ line; decide, T0, [x, y], rfl, upd_same .., s.fresh hT, ?_⟩
  exact Reps.cons (Rep.ext ex _ _ r1) (Reps.one (Rep.ext ex _ _ r2))
theorem src_enumL {ck : Store → Bool} {a : Addr} {ts : List T} {vs : List V} (hl : ts.length ≤ line) (h : H a = some (.lst vs)) (n : a ∉ β) (r : Reps K β H ts vs) : Src K (Ite K a) (enumFrom 0 ts) ck β H where
  len := by rw [enum_len]; exact hl
  go := fun β' H' S i x s c hi => by
    rw [enum_len] at hi
    obtain ⟨v, e⟩ := reps_ix r hi
    exact ⟨vs, v, .inl (.inl (x.keep a _ h n).1), e⟩
  stop := fun β' H' S x s c => ⟨vs, .inl (.inl (x.keep a _ h n).1), by rw [enum_len, r.length] <;> exact Nat.le_refl _⟩
  yld := fun β' H' S i t v H2 x s c e y => by
    obtain ⟨T0, x0, e1, hT, e2, y⟩ := y
    subst e1 e2
    obtain ⟨u, hu, e3⟩ := enum_ix e
    subst e3
    have y1 := y vs (.inl (.inl (x.keep a _ h n).1))
    obtain ⟨w, e4, rw1⟩ := (Reps.gr x _ _ r).get hu
    rw [e4] at y1
    cases y1
    rw [Nat.zero_add]
    exact pair_new s hT (t := .int (i : Nat)) (show V.int _ = V.int _ from rfl) rw1
theorem zip_len : ∀ {xs ys : List T}, (zipT xs ys).length = min xs.length ys.length
  | [], _ => by simp [zipT]
  | _ :: _, [] => by simp [zipT]
  | x :: xs, y :: ys => by unfold zipT; rw [List.length_cons, zip_len, List.length_cons, List.length_cons]; omega
theorem zip_ix : ∀ {xs ys : List T} {i : Nat} {t : T}, (zipT xs ys)[i]? = some t → ∃ x y, xs[i]? = some x ∧ ys[i]? = some y ∧ t = .tup [x, y]
  | [], _, _, _, e => by simp [zipT] at e
  | _ :: _, [], _, _, e => by simp [zipT] at e
  | x :: xs, y :: ys, 0, t, e => by
    unfold zipT at e
    exact ⟨x, y, rfl, rfl, (Option.some.inj e).symm⟩
  | x :: xs, y :: ys, i + 1, t, e => by
    unfold zipT at e
    exact zip_ix (xs := xs) (ys := ys) (i := i) e
theorem src_zipT {ck : Store → Bool} {a b : Addr} {ts us : List T} {vs ws : List V} (hl : ts.length ≤ line) (h : H a = some (.tup vs)) (n : a ∉ β) (r : Reps K β H ts vs) (h' : H b = some (.tup ws)) (n' : b ∉ β) (r' : Reps K β H us ws) : Src K (RZ.ItzT K a b) (zipT ts us) ck β H where
  len := by rw [zip_len]; exact Nat.le_trans (Nat.min_le_left ..) hl
  go := fun β' H' S i x s c hi => by
    rw [zip_len] at hi
    obtain ⟨v, e⟩ := reps_ix r (Nat.lt_of_lt_of_le hi (Nat.min_le_left ..))
    obtain ⟨w, e'⟩ := reps_ix r' (Nat.lt_of_lt_of_le hi (Nat.min_le_right ..))
    exact ⟨vs, ws, v, w, .inl (.inl (x.keep a _ h n).1), .inl (.inl (x.keep b _ h' n').1), e, e'⟩
  stop := fun β' H' S x s c => ⟨vs, ws, .inl (.inl (x.keep a _ h n).1), .inl (.inl (x.keep b _ h' n').1), by
    rw [zip_len, ← r.length, ← r'.length]
    rcases Nat.le_total ts.length us.length with q | q
    · exact .inl (by rw [Nat.min_eq_left q] <;> exact Nat.le_refl _)
    · exact .inr (by rw [Nat.min_eq_right q] <;> exact Nat.le_refl _)⟩
  yld := fun β' H' S i t v H2 x s c e y => by
    obtain ⟨T0, x0, x1, e1, hT, e2, y, y'⟩ := y
    subst e1 e2
    obtain ⟨u, w, hu, hw, e3⟩ := zip_ix e
    subst e3
    have y1 := y vs (.inl (.inl (x.keep a _ h n).1))
    have y2 := y' ws (.inl (.inl (x.keep b _ h' n').1))
    obtain ⟨z, e4, r1⟩ := (Reps.gr x _ _ r).get hu
    obtain ⟨z', e5, r2⟩ := (Reps.gr x _ _ r').get hw
    rw [e4] at y1
    rw [e5] at y2
    cases y1
    cases y2
    exact pair_new s hT r1 r2
theorem src_zipL {ck : Store → Bool} {a b : Addr} {ts us : List T} {vs ws : List V} (hl : ts.length ≤ line) (h : H a = some (.lst vs)) (n : a ∉ β) (r : Reps K β H ts vs) (h' : H b = some (.lst ws)) (n' : b ∉ β) (r' : Reps K β H us ws) : Src K (L2.Itz K a b) (zipT ts us) ck β H where
  len := by rw [zip_len]; exact Nat.le_trans (Nat.min_le_left ..) hl
  go := fun β' H' S i x s c hi => by
    rw [zip_len] at hi
    obtain ⟨v, e⟩ := reps_ix r (Nat.lt_of_lt_of_le hi (Nat.min_le_left ..))
    obtain ⟨w, e'⟩ := reps_ix r' (Nat.lt_of_lt_of_le hi (Nat.min_le_right ..))
    exact ⟨vs, ws, v, w, .inl (.inl (x.keep a _ h n).1), .inl (.inl (x.keep b _ h' n').1), e, e'⟩
  stop := fun β' H' S x s c => ⟨vs, ws, .inl (.inl (x.keep a _ h n).1), .inl (.inl (x.keep b _ h' n').1), by
    rw [zip_len, ← r.length, ← r'.length]
    rcases Nat.le_total ts.length us.length with q | q
    · exact .inl (by rw [Nat.min_eq_left q] <;> exact Nat.le_refl _)
    · exact .inr (by rw [Nat.min_eq_right q] <;> exact Nat.le_refl _)⟩
  yld := fun β' H' S i t v H2 x s c e y => by
    obtain ⟨T0, x0, x1, e1, hT, e2, y, y'⟩ := y
    subst e1 e2
    obtain ⟨u, w, hu, hw, e3⟩ := zip_ix e
    subst e3
    have y1 := y vs (.inl (.inl (x.keep a _ h n).1))
    have y2 := y' ws (.inl (.inl (x.keep b _ h' n').1))
    obtain ⟨z, e4, r1⟩ := (Reps.gr x _ _ r).get hu
    obtain ⟨z', e5, r2⟩ := (Reps.gr x _ _ r').get hw
    rw [e4] at y1
    rw [e5] at y2
    cases y1
    cases y2
    exact pair_new s hT r1 r2
end
end Mi
/-! MiC12: targets, iterators, comprehensions. -/
namespace Mi
open PySem PySem.Spec PyProof.Rows L2

/-! ### targets -/
theorem lwipe_ix (σ : L2.St) (i : Nat) : ∀ vs : List Nat, (L2.wipe σ vs)[i]? = if i ∈ vs ∧ i < σ.length then some none else σ[i]?
  | [] => by simp [L2.wipe]
  | v :: vs => by
    unfold L2.wipe
    by_cases h : v = i
    · subst h
      by_cases hl : v < σ.length
      · rw [List.getElem?_set_self (by rw [L2.wipe_length]; exact hl), if_pos ⟨List.mem_cons_self, hl⟩]
      · rw [List.getElem?_eq_none (by rw [List.length_set, L2.wipe_length]; omega), if_neg (fun c => hl c.2), List.getElem?_eq_none (by omega)]
    · rw [List.getElem?_set_ne h, lwipe_ix σ i vs]
      have e : (i ∈ v :: vs) = (i ∈ vs) := by
        rw [List.mem_cons]
        exact propext ⟨fun q => q.resolve_left (fun e => h e.symm), .inr⟩
      simp only [e]
theorem lwipe_set (σ : L2.St) {i : Nat} {x : Option V} {vs : List Nat} (h : i ∈ vs) : L2.wipe (σ.set i x) vs = L2.wipe σ vs := by
  apply List.ext_getElem?
  intro j
  rw [lwipe_ix, lwipe_ix, List.length_set]
  split
  · rfl
  · rename_i hc
    by_cases hj : i = j
    · subst hj
      rw [List.getElem?_eq_none (by rw [List.length_set]; exact Nat.le_of_not_lt fun q => hc ⟨h, q⟩), List.getElem?_eq_none (Nat.le_of_not_lt fun q => hc ⟨h, q⟩)]
    · rw [List.getElem?_set_ne hj]
theorem lwipe_idem (σ : L2.St) (vs : List Nat) : L2.wipe (L2.wipe σ vs) vs = L2.wipe σ vs := by
  apply List.ext_getElem?
  intro j
  rw [lwipe_ix, L2.wipe_length, lwipe_ix]
  split <;> rfl

def tG (K : PySem.W.Frag) (gg : MG) : TG := fun v σ H Q => ∃ (β : Be) (env : Env) (t : T) (env' : Env), EnvR K β H env σ ∧ Rep K β H t v ∧ gg.asg t env = some env' ∧ ∀ σ', EnvR K β H env' σ' → (∀ vs, gg.inn vs = true → L2.wipe σ' vs = L2.wipe σ vs) → Q σ' H
def tGs (K : PySem.W.Frag) (gs : List MG) : TGs := fun vs σ H Q => ∃ (β : Be) (env : Env) (ts : List T) (env' : Env), EnvR K β H env σ ∧ Reps K β H ts vs ∧ MG.asgs gs ts env = some env' ∧ ∀ σ', EnvR K β H env' σ' → (∀ vs, MG.inns vs gs = true → L2.wipe σ' vs = L2.wipe σ vs) → Q σ' H
theorem _root_.L2.PG.imp {X : Cx} {e : Expr} {t t' : TG} (h : PG X e t) (f : ∀ v σ H Q, t' v σ H Q → t v σ H Q) : PG X e t' := ⟨fun pins s σ H v u Q I r q => h.run pins s σ H v u Q I r (f v σ H Q q)⟩
theorem _root_.L2.PGs.imp {X : Cx} {e : List Expr} {t t' : TGs} (h : PGs X e t) (f : ∀ v σ H Q, t' v σ H Q → t v σ H Q) : PGs X e t' := ⟨fun pins s σ H v u Q I r q => h.run pins s σ H v u Q I r (f v σ H Q q)⟩

theorem eqG_star {Z : Sc} {m : MG} {e : Expr} (h : eqG Z m e = true) (es : List Expr) (env : PySem.Env) : assignEach (e :: es) env = (false, assign e env) :: assignEach es env := by
  cases e <;> first | rfl | (cases m <;> simp [eqG] at h)
theorem eqGs_plain {Z : Sc} : ∀ {ms : List MG} {es : List Expr}, eqGs Z ms es = true → ∀ (env : PySem.Env), (assignEach es env).findIdx? (·.1) = none ∧ (assignEach es env).length = ms.length
  | [], [], _, _ => ⟨rfl, rfl⟩
  | [], _ :: _, h, _ => by simp [eqGs] at h
  | _ :: _, [], h, _ => by simp [eqGs] at h
  | m :: ms, e :: es, h, env => by
    simp only [eqGs, Bool.and_eq_true] at h
    obtain ⟨h1, h2⟩ := eqGs_plain h.2 env
    rw [eqG_star h.1]
    refine ⟨?_, by rw [List.length_cons, List.length_cons, h2]⟩
    rw [List.findIdx?_cons, h1]
    rfl
theorem asgs_len : ∀ {gs : List MG} {ts : List T} {env env' : Env}, MG.asgs gs ts env = some env' → gs.length = ts.length
  | [], [], _, _, _ => rfl
  | [], _ :: _, _, _, h => by simp [MG.asgs] at h
  | _ :: _, [], _, _, h => by simp [MG.asgs] at h
  | g :: gs, t :: ts, env, env', h => by
    unfold MG.asgs at h
    cases q : g.asg t env with
    | none => rw [q] at h; cases h
    | some e1 =>
      rw [q] at h
      rw [List.length_cons, List.length_cons, asgs_len (show MG.asgs gs ts e1 = some env' from h)]
section
variable {W : Wd} {d : Nat} {EX : XK} {X : Cx} {Z : Sc} (g : Good W d X Z EX)
include g
theorem loc_of {x : Str} (h : locB Z x = true) : L2.Loc X.env.scope x ∧ (X.fn x = true ∨ X.env.scope.names.lookup x = some .local) := by
  unfold locB at h
  unfold L2.Loc
  rw [g.sc, g.fn]
  cases q : Z.sc.names.lookup x with
  | none => rw [q] at h; cases h
  | some k => cases k <;> rw [q] at h <;> simp_all
mutual
theorem sndG : ∀ (m : MG) (e : Expr), eqG Z m e = true → PG X e (tG W.K m)
  | .name i, e, h => by
    cases e <;> simp only [eqG, Bool.false_eq_true, Bool.and_eq_true] at h
    rename_i x pos
    obtain ⟨h1, h2⟩ := h
    have hi : X.N[i]? = some x := by rw [g.N]; exact of_decide_eq_true h1
    obtain ⟨l1, l2⟩ := loc_of g h2
    refine (pg_name g.nd hi l1 l2).imp fun v σ H Q ⟨β, env, t, env', hE, r, ha, q⟩ => ?_
    have ha' : env.set i (some t) = env' := Option.some.inj ha
    subst ha'
    exact q _ (hE.set r i) fun vs hv => lwipe_set _ (of_decide_eq_true hv)
  | .tup gs, e, h => by
    cases e <;> simp only [eqG, Bool.false_eq_true] at h
    rename_i es k pos
    obtain ⟨hp1, hp2⟩ := eqGs_plain h X.env
    have hs := sndGs gs es h
    have kk := g.K
    refine ⟨fun pins s σ H v u Q I r ⟨β, env, t, env', hE, rt, ha, q⟩ => ?_⟩
    cases t with
    | tup ts =>
      obtain ⟨hl, a, vs, e1, hv, na, rs⟩ := rt
      have hlen := asgs_len (show MG.asgs gs ts env = some env' from ha)
      refine (pg_tup (n := gs.length) g.calm hs hp2 hp1).run pins s σ H v u Q I r ⟨a, vs, e1, .inl (.inl hv), by rw [← rs.length, hlen], β, env, ts, env', hE, rs, ha, q⟩
    | lst ts =>
      obtain ⟨hl, a, vs, e1, hv, na, rs⟩ := rt
      have hlen := asgs_len (show MG.asgs gs ts env = some env' from ha)
      refine (pg_lst (n := gs.length) g.calm hs hp2 hp1).run pins s σ H v u Q I r ⟨a, vs, e1, .inl (.inl hv), by rw [← rs.length, hlen], β, env, ts, env', hE, rs, ha, q⟩
    | _ => exact (nomatch (show (none : Option Env) = some env' from ha))
theorem sndGs : ∀ (ms : List MG) (es : List Expr), eqGs Z ms es = true → PGs X es (tGs W.K ms)
  | [], es, h => by
    cases es with
    | cons e es => simp [eqGs] at h
    | nil =>
      refine pgs_nil.imp fun v σ H Q ⟨β, env, ts, env', hE, r, ha, q⟩ => ?_
      cases ts with
      | cons t ts => exact (nomatch (show (none : Option Env) = some env' from ha))
      | nil =>
        have e0 : env = env' := Option.some.inj ha
        subst e0
        exact ⟨r, q _ hE fun vs _ => rfl⟩
  | m :: ms, es, h => by
    cases es with
    | nil => simp [eqGs] at h
    | cons e es =>
      simp only [eqGs, Bool.and_eq_true] at h
      refine (pgs_cons (sndG m e h.1) (sndGs ms es h.2) (by rw [eqG_star h.1] <;> rfl)).imp fun v σ H Q ⟨β, env, ts, env', hE, r, ha, q⟩ => ?_
      cases ts with
      | nil => exact (nomatch (show (none : Option Env) = some env' from ha))
      | cons t ts =>
        obtain ⟨v1, vr, e1, r1, rr⟩ := r
        refine ⟨v1, vr, e1, ?_⟩
        unfold MG.asgs at ha
        cases q1 : m.asg t env with
        | none => rw [q1] at ha; cases ha
        | some env1 =>
          rw [q1] at ha
          refine ⟨β, env, t, env1, hE, r1, q1, fun σ1 hE1 hw1 => ?_⟩
          refine ⟨β, env1, ts, env', hE1, rr, ha, fun σ2 hE2 hw2 => q σ2 hE2 fun vs hv => ?_⟩
          simp only [MG.inns, Bool.and_eq_true] at hv
          rw [hw2 vs hv.2, hw1 vs hv.1]
end

/-! ### iterators -/
def PostI (W : Wd) (EX : XK) (β : Be) (H : Hp) (r : Res T) (R : It → Hp → Prop) : Prop :=
  match r with
  | .ok v S => (match itemsOf S v with
    | some (xs, q) => ∀ β' H' J, Ext β H β' H' → SR W.K β' H' S → Src W.K J xs (still q xs) β' H' → R J H'
    | none => False)
  | .err c S => ∀ β' H', Ext β H β' H' → SR W.K β' H' S → EX (.ref (W.cls c)) none H'
  | .fail => False
def tI (W : Wd) (d : Nat) (EX : XK) (m : ME) : TI := fun σ H R => ∃ β env S, SR W.K β H S ∧ EnvR W.K β H env σ ∧ PostI W EX β H (ev (W.cfg d) m env S) R
theorem pi_of {m : ME} {e tg : Expr} (he : PE X e (tE W d EX m)) : PI X tg e (tI W d EX m) := by
  have kk := g.K
  refine ⟨fun pins s σ H R I ⟨β, env, S, hS, hE, hp⟩ => ?_⟩
  cases hr : ev (W.cfg d) m env S with
  | fail => rw [hr] at hp; exact hp.elim
  | err c S' =>
    rw [hr] at hp
    exact (pi_tup he).run pins s σ H R I ⟨β, env, S, hS, hE, by rw [hr]; exact hp⟩
  | ok v S' =>
    rw [hr] at hp
    have tupC : ∀ ts, v = .tup ts → wpAny (model X.prog X.w) X.A (eval e X.env) (fun v s1 => wpAny (model X.prog X.w) X.A (pyIter v) (PIE X pins σ tg R) X.xe s1) X.xe s := fun ts ev1 => by
      subst ev1
      refine (pi_tup he).run pins s σ H R I ⟨β, env, S, hS, hE, ?_⟩
      rw [hr]
      intro β' H' x ex sr ⟨hl, a, vs, e1, hv, na, rs⟩
      refine ⟨a, e1, ⟨vs, .inl (.inl hv)⟩, ?_⟩
      rw [kk]
      exact hp β' H' _ ex sr (src_tup hl hv na rs)
    cases v with
    | tup ts => exact tupC ts rfl
    | lst ts =>
      refine (pi_list he).run pins s σ H R I ⟨β, env, S, hS, hE, ?_⟩
      rw [hr]
      intro β' H' x ex sr ⟨hl, a, vs, e1, hv, na, rs⟩
      refine ⟨a, e1, ⟨vs, .inl (.inl hv)⟩, ?_⟩
      rw [kk]
      exact hp β' H' _ ex sr (src_lst hl hv na rs)
    | scr ns =>
      refine (pi_list he).run pins s σ H R I ⟨β, env, S, hS, hE, ?_⟩
      rw [hr]
      intro β' H' x ex sr r
      obtain ⟨p, e1, q⟩ := scr_at r
      subst e1
      rw [kk]
      exact ⟨p, rfl, ⟨_, q⟩, hp β' H' _ ex sr (src_scr r)⟩
    | ref n =>
      refine (pi_list he).run pins s σ H R I ⟨β, env, S, hS, hE, ?_⟩
      rw [hr]
      intro β' H' x ex sr ⟨a, e1, ha⟩
      subst e1
      have hp' : (match itemsOf S' (.ref n) with
        | some (xs, q) => ∀ β' H' J, Ext β H β' H' → SR W.K β' H' S' → Src W.K J xs (still q xs) β' H' → R J H'
        | none => False) := hp
      cases hn : S'[n]? with
      | none => simp only [itemsOf, hn] at hp'
      | some mo =>
        cases mo with
        | dct kvs => simp only [itemsOf, hn] at hp'
        | lst xs =>
          simp only [itemsOf, hn] at hp'
          obtain ⟨hl, vs, hv, rs⟩ := sr.obj n _ a hn ha
          rw [kk]
          exact ⟨a, rfl, ⟨vs, .inl (.inl hv)⟩, hp' β' H' _ ex sr (src_ref hl ha)⟩
    | str x =>
      refine (pi_str he).run pins s σ H R I ⟨β, env, S, hS, hE, ?_⟩
      rw [hr]
      intro β' H' y ex sr ⟨e1, hl⟩
      exact ⟨_, e1, hp β' H' _ ex sr (src_str hl)⟩
    | _ => exact (show False from hp).elim
theorem pi_zipG {a b : Expr} {es : List Expr} {k : Nat} {tp p pos : Pos} {ma mb : ME} (h : eqI (.zipI ma mb) Z (.Tuple es k tp) (.Call (.Name "zip" p) [a, b] [] pos) = true) (hm : X.mg "zip" = none)
    (ha : PA X [a, b] (tA W d EX [ma, mb])) : PI X (.Tuple es k tp) (.Call (.Name "zip" p) [a, b] [] pos) (tI W d EX (.zipI ma mb)) := by
  have kk := g.K
  simp only [eqI, Bool.and_eq_true] at h
  obtain ⟨⟨⟨⟨_, h1⟩, h2⟩, h3⟩, _⟩ := h
  obtain ⟨hg, _, _⟩ := glb_of g h1
  have hs : eqEs [ma, mb] Z [a, b] = true := by simp [eqEs, h2, h3]
  have hb : eqEs [mb] Z [b] = true := by simp [eqEs, h3]
  refine ⟨fun pins s σ H R I ⟨β, env, S, hS, hE, hp⟩ => ?_⟩
  refine (RZ.pi_zipA (tpos := tp) (kk := k) hg hm ha (eqEs_star hs _) (eqEs_plain hb X.env pos)).run pins s σ H R I ⟨β, env, S, hS, hE, ?_⟩
  have hp' : PostI W EX β H (bnd (evs (W.cfg d) [ma, mb] env S) fun vs S => (match vs with
    | [.tup xs, .tup ys] => .ok (.lst (zipT xs ys)) S
    | [.lst xs, .lst ys] => .ok (.lst (zipT xs ys)) S
    | _ => .fail)) R := by
    have e : ev (W.cfg d) (.zipI ma mb) env S = bnd (evs (W.cfg d) [ma, mb] env S) fun vs S => (match vs with
      | [.tup xs, .tup ys] => .ok (.lst (zipT xs ys)) S
      | [.lst xs, .lst ys] => .ok (.lst (zipT xs ys)) S
      | _ => .fail) := by
      simp only [ev, evs]
      cases ev (W.cfg d) ma env S with
      | ok x S1 =>
        simp only [bnd_ok]
        cases ev (W.cfg d) mb env S1 with
        | ok y S2 =>
          simp only [bnd_ok]
          cases x <;> cases y <;> rfl
        | _ => rfl
      | _ => rfl
    rw [← e]
    exact hp
  cases hr : evs (W.cfg d) [ma, mb] env S with
  | fail => rw [hr] at hp'; exact hp'.elim
  | err c S' => rw [hr] at hp'; exact hp'
  | ok vs S' =>
    rw [hr, bnd_ok] at hp'
    intro β' H' ws ex sr rs
    have two : ∀ x y, vs = [x, y] → ∃ v1 v2, ws = [v1, v2] ∧ Rep W.K β' H' x v1 ∧ Rep W.K β' H' y v2 := fun x y e => by
      subst e
      obtain ⟨v1, r1, e1, q1, v2, r2, e2, q2, e3⟩ := rs
      have e3' : r2 = [] := e3
      subst e1 e2 e3'
      exact ⟨v1, v2, rfl, q1, q2⟩
    have key : (∃ xs ys, vs = [.tup xs, .tup ys]) ∨ (∃ xs ys, vs = [.lst xs, .lst ys]) := by
      cases vs with
      | nil => exact (show False from hp').elim
      | cons x r =>
        cases r with
        | nil => cases x <;> exact (show False from hp').elim
        | cons y r =>
          cases r with
          | cons z r => cases x <;> cases y <;> exact (show False from hp').elim
          | nil => cases x <;> cases y <;> first | exact .inl ⟨_, _, rfl⟩ | exact .inr ⟨_, _, rfl⟩ | exact (show False from hp').elim
    rw [kk]
    rcases key with ⟨xs, ys, e⟩ | ⟨xs, ys, e⟩
    · obtain ⟨v1, v2, e1, ⟨hl, a1, u1, q1, f1, n1, s1⟩, ⟨_, a2, u2, q2, f2, n2, s2⟩⟩ := two _ _ e
      subst e e1 q1 q2
      exact ⟨a1, a2, u1, u2, rfl, .inr ⟨.inl (.inl f1), .inl (.inl f2), hp' β' H' _ ex sr (src_zipT hl f1 n1 s1 f2 n2 s2)⟩⟩
    · obtain ⟨v1, v2, e1, ⟨hl, a1, u1, q1, f1, n1, s1⟩, ⟨_, a2, u2, q2, f2, n2, s2⟩⟩ := two _ _ e
      subst e e1 q1 q2
      exact ⟨a1, a2, u1, u2, rfl, .inl ⟨.inl (.inl f1), .inl (.inl f2), hp' β' H' _ ex sr (src_zipL hl f1 n1 s1 f2 n2 s2)⟩⟩
end
end Mi
/-! MiC13: ranges; comprehensions. -/
namespace Mi
open PySem PySem.Spec PyProof.Rows L2

theorem EnvR.gr {K : PySem.W.Frag} {β β' : Be} {H H' : Hp} {env : Env} {σ : L2.St} (e : EnvR K β H env σ) (x : Gr β H β' H') : EnvR K β' H' env σ :=
  ⟨e.1, fun i t h => let ⟨v, h1, h2⟩ := e.2 i t h; ⟨v, h1, Rep.gr x _ _ h2⟩⟩
theorem PostE.ext {W : Wd} {EX : XK} {β β1 : Be} {H H1 : Hp} {r : Res T} {Q : VK} (h : PostE W EX β H r Q) (x : Ext β H β1 H1) : PostE W EX β1 H1 r Q := by
  cases r with
  | ok v S => exact fun β2 H2 y e s r => h β2 H2 y (x.trans e) s r
  | err c S => exact fun β2 H2 e s => h β2 H2 (x.trans e) s
  | fail => exact h
theorem fsi_of {m : ME} {Z : Sc} {tg e : Expr} (h : (eqI m Z tg e || eqE m Z e) = true) (env : PySem.Env) (x : Value) : foldedSetIterable e env x = pure x := by
  cases e <;> first | rfl | (exfalso; cases m <;> simp [eqI, eqE] at h)

/-- one turn of a comprehension -/
def compStp (c : Cfg) (own : List Nat) (g : MG) (cond : Option ME) (elt : ME) (env : Env) : T → Store → Res (Option T) := fun x S => (match g.asg x (Mi.wipe env own) with
        | some env' => (match cond with
          | some t => bnd (ev c t env' S) fun b S => (match truthy S b with
            | some true => bnd (ev c elt env' S) fun y S => .ok (some y) S
            | some false => .ok none S
            | none => .fail)
          | none => bnd (ev c elt env' S) fun y S => .ok (some y) S)
        | none => .fail)
theorem ev_comp (c : Cfg) (heap : Bool) (own : List Nat) (g : MG) (it : ME) (cond : Option ME) (elt : ME) (env : Env) (S : Store) :
    ev c (.comp heap own g it cond elt) env S = bnd (ev c it env S) fun v S => (match itemsOf S v with
    | some (xs, r) => bnd (compLoop (compStp c own g cond elt env) (still r xs) xs S) fun vs S => newList heap vs S
    | none => .fail) := by
  rw [ev]
  congr 1

def NoX : XK := fun _ _ _ => False
section
variable {W : Wd} {d : Nat} {EX : XK} {X : Cx} {Z : Sc} (g : Good W d X Z EX)
include g
theorem Good.blk {scope : Scope} (s : Shared) (H : Hp) (C : Addr) (cl : List (Str × Addr)) (fp : List Addr) : Good W d (X.blk s H scope (compEnvC scope cl C X.env) fp) (Z.blk scope) NoX where
  prog := g.prog
  w := g.w
  K := g.K
  mg := g.mg
  base := g.base
  calm := g.calm
  room := g.room
  N := g.N
  nd := g.nd
  sc := by
    show relS scope X.env.scope = relS scope Z.sc
    rw [g.sc]
  fn := rfl
  nm := g.nm
  pass := fun pins σ H s e s' I ⟨_, _, _, _, _, _, _, _, _, _, _, _, z⟩ => z

theorem pi_rng {tg : Expr} {es : List Expr} {p pos : Pos} {ms : List ME} (h : eqI (.rangeI ms) Z tg (.Call (.Name "range" p) es [] pos) = true) (hm : X.mg "range" = none)
    (ha : PA X es (tA W d EX ms)) : PI X tg (.Call (.Name "range" p) es [] pos) (tI W d EX (.rangeI ms)) := by
  simp only [eqI, Bool.and_eq_true] at h
  obtain ⟨⟨⟨_, h1⟩, h2⟩, h3⟩ := h
  obtain ⟨hg, _, _⟩ := glb_of g h1
  have hl : es.length = 1 ∨ es.length = 2 := by
    have h3 : 1 ≤ es.length ∧ es.length ≤ 2 := by simpa using h3
    omega
  rcases hl with hl | hl
  · obtain ⟨e1, rfl⟩ : ∃ e1, es = [e1] := by
      match es, hl with
      | [e1], _ => exact ⟨e1, rfl⟩
    obtain ⟨m1, rfl⟩ : ∃ m1, ms = [m1] := by
      match ms, h2 with
      | [m1], _ => exact ⟨m1, rfl⟩
      | [], h2 => simp [eqEs] at h2
      | _ :: _ :: _, h2 => simp [eqEs] at h2
    refine ⟨fun pins s σ H R I ⟨β, env, S, hS, hE, hp⟩ => ?_⟩
    refine (pi_range1 hg hm ha (eqEs_star h2 _)).run pins s σ H R I ⟨β, env, S, hS, hE, ?_⟩
    rw [ev] at hp
    cases hr : evs (W.cfg d) [m1] env S with
    | fail => rw [hr] at hp; exact hp.elim
    | err c S' => rw [hr] at hp; exact hp
    | ok vs S' =>
      rw [hr, bnd_ok] at hp
      intro β' H' ws ex sr rs
      match vs, rs, hp with
      | [.int j], ⟨v1, r1, q1, e1, q2⟩, hp =>
        have q2' : r1 = [] := q2
        have e1' : v1 = .int j := e1
        subst q1 q2' e1'
        by_cases hj : -(line : Int) ≤ j ∧ j ≤ line
        · simp only [rangeOf, if_pos hj] at hp
          have hll : line = 16777216 := rfl
          refine ⟨j, rfl, by omega, by omega, hp β' H' _ ex sr (src_rng (by omega))⟩
        · simp only [rangeOf, if_neg hj] at hp
          exact (show False from hp).elim
      | [.non], _, hp => exact (show False from hp).elim
      | [.bl _], _, hp => exact (show False from hp).elim
      | [.str _], _, hp => exact (show False from hp).elim
      | [.tup _], _, hp => exact (show False from hp).elim
      | [.lst _], _, hp => exact (show False from hp).elim
      | [.scr _], _, hp => exact (show False from hp).elim
      | [.ref _], _, hp => exact (show False from hp).elim
      | [], rs, hp => exact (show False from hp).elim
      | a :: b :: r, rs, hp =>
        exfalso
        have := evs_length hr
        simp at this
  · obtain ⟨e1, e2, rfl⟩ : ∃ e1 e2, es = [e1, e2] := by
      match es, hl with
      | [e1, e2], _ => exact ⟨e1, e2, rfl⟩
    obtain ⟨m1, m2, rfl⟩ : ∃ m1 m2, ms = [m1, m2] := by
      match ms, h2 with
      | [m1, m2], _ => exact ⟨m1, m2, rfl⟩
      | [], h2 => simp [eqEs] at h2
      | [_], h2 => simp [eqEs] at h2
      | _ :: _ :: _ :: _, h2 => simp [eqEs] at h2
    have h2' : eqEs [m2] Z [e2] = true := by
      simp only [eqEs, Bool.and_eq_true] at h2 ⊢
      exact h2.2
    refine ⟨fun pins s σ H R I ⟨β, env, S, hS, hE, hp⟩ => ?_⟩
    refine (pi_range2 hg hm ha (by rw [eqEs_star h2, eqEs_star h2'] <;> rfl) (eqEs_star h2' _)).run pins s σ H R I ⟨β, env, S, hS, hE, ?_⟩
    rw [ev] at hp
    cases hr : evs (W.cfg d) [m1, m2] env S with
    | fail => rw [hr] at hp; exact hp.elim
    | err c S' => rw [hr] at hp; exact hp
    | ok vs S' =>
      rw [hr, bnd_ok] at hp
      intro β' H' ws ex sr rs
      have hlen := evs_length hr
      obtain ⟨x, y, rfl⟩ : ∃ x y, vs = [x, y] := by
        match vs, hlen with
        | [x, y], _ => exact ⟨x, y, rfl⟩
      obtain ⟨v1, r1, q1, e1, v2, r2, q2, e2, q3⟩ := rs
      have q3' : r2 = [] := q3
      subst q1 q2 q3'
      cases x with
      | int i =>
        cases y with
        | int j =>
          have e1' : v1 = .int i := e1
          have e2' : v2 = .int j := e2
          subst e1' e2'
          by_cases hj : 0 ≤ i ∧ i ≤ line ∧ -(line : Int) ≤ j ∧ j ≤ line
          · simp only [rangeOf, if_pos hj] at hp
            have hll : line = 16777216 := rfl
            refine ⟨i, j, rfl, ⟨by omega, by omega, by omega, by omega⟩, hp β' H' _ ex sr (src_rng (by omega))⟩
          · simp only [rangeOf, if_neg hj] at hp
            exact (show False from hp).elim
        | _ => exact (show False from hp).elim
      | _ => exact (show False from hp).elim
end
end Mi
/-! MiC14: comprehensions. -/
namespace Mi
open PySem PySem.Spec PyProof.Rows L2

section
variable {W : Wd} {d : Nat} {EX : XK} {X : Cx} {Z : Sc} (g : Good W d X Z EX)
include g
/-- the test of a comprehension -/
def tC (W : Wd) (d : Nat) : Option ME → TT
  | none => tYes
  | some c => tT W d NoX c
theorem cfg_eq : W.cfg d = W.cfg d := rfl
omit g in
theorem compLoop_cons {stp : T → Store → Res (Option T)} {ck : Store → Bool} {x : T} {r : List T} {S : Store} {γ : Type} {f : List T → Store → Res γ} {P : Res γ → Prop} (hP : ¬ P .fail) (h : P (bnd (compLoop stp ck (x :: r) S) f)) :
    ck S = true ∧ ∃ o S', stp x S = .ok o S' ∧ P (bnd (compLoop stp ck r S') fun vs S'' => f (match o with | some v => v :: vs | none => vs) S'') := by
  unfold compLoop at h
  cases hc : ck S with
  | false => rw [hc] at h; exact (hP h).elim
  | true =>
    rw [hc, if_pos rfl] at h
    cases hs : stp x S with
    | ok o S' =>
      rw [hs] at h
      refine ⟨rfl, o, S', rfl, ?_⟩
      simp only [bnd_assoc] at h
      exact h
    | err c S' => rw [hs] at h; exact (hP h).elim
    | fail => rw [hs] at h; exact (hP h).elim
omit g in
theorem compLoop_nil {stp : T → Store → Res (Option T)} {ck : Store → Bool} {S : Store} {γ : Type} {f : List T → Store → Res γ} {P : Res γ → Prop} (hP : ¬ P .fail) (h : P (bnd (compLoop stp ck [] S) f)) : ck S = true ∧ P (f [] S) := by
  unfold compLoop at h
  cases hc : ck S with
  | false => rw [hc] at h; exact (hP h).elim
  | true =>
    rw [hc, if_pos rfl] at h
    exact ⟨rfl, h⟩

/-- what stands at a turn of a comprehension -/
structure CW (W : Wd) (EX : XK) (Q : VK) (heap : Bool) (stp : T → Store → Res (Option T)) (ck : Store → Bool) (xs : List T) (D : Addr) (β1 : Be) (H1 : Hp) (i m : Nat) (H : Hp) (γ : Be) (Si : Store) (vs : List T) (ws : List V) : Prop where
  m : m = xs.length - i
  le : i ≤ xs.length
  ex : Ext β1 H1 γ H
  sr : SR W.K (γ.hold D) H Si
  at_ : H D = some (.lst ws)
  rs : Reps W.K (γ.hold D) H vs ws
  len : vs.length ≤ i
  post : PostE W EX β1 H1 (bnd (compLoop stp ck (xs.drop i) Si) fun rest S => newList heap (vs ++ rest) S) Q

theorem comp_core {heap : Bool} {own : List Nat} {gg : MG} {cond : Option ME} {elt : ME} {env : Env} {σ : L2.St} {xs : List T} {ck : Store → Bool} {J : It} {β1 : Be} {H1 : Hp} {S1 : Store} {Q : VK} {D : Addr}
    (hE : EnvR W.K β1 H1 env σ) (sr : SR W.K β1 H1 S1) (src : Src W.K J xs ck β1 H1) (hD : H1 D = none) (hin : gg.inn own = true)
    (hp : PostE W EX β1 H1 (bnd (compLoop (compStp (W.cfg d) own gg cond elt env) ck xs S1) fun vs S => newList heap vs S) Q) :
    ∃ Wt : Nat → Nat → Hp → Prop, (∃ m, Wt 0 m (upd H1 D (.lst []))) ∧ ∀ i m H, Wt i m H →
  (J.stop i H ∧ Q (.ref D) H) ∨ (J.go i H ∧ ∃ Nx : Hp → Prop, (∀ H', Nx H' → ∃ m', m' < m ∧ Wt (i + 1) m' H') ∧ ∀ x H', J.yld i H x H' → tG W.K gg x (L2.wipe σ own) H' fun σ2 H2 => L2.wipe σ2 own = L2.wipe σ own ∧ tC W d cond σ2 H2 fun b H3 =>
    if b = true then tE W d NoX elt σ2 H3 fun y H4 => ∃ acc, H4 D = some (.lst acc) ∧ acc.length < sizeLine ∧ Nx (upd H4 D (.lst (acc ++ [y]))) else Nx H3) := by
  generalize hstp : compStp (W.cfg d) own gg cond elt env = stp at hp
  refine ⟨fun i m H => ∃ γ Si vs ws, CW W EX Q heap stp ck xs D β1 H1 i m H γ Si vs ws, ⟨xs.length, β1, S1, [], [], ⟨by simp, Nat.zero_le _, Ext.skip hD Ext.refl, sr.hold hD, upd_same, rfl, Nat.zero_le _, by simpa using hp⟩⟩, ?_⟩
  rintro i m H ⟨γ, Si, vs, ws, w⟩
  have notF : ¬ PostE W EX β1 H1 .fail Q := fun z => z
  have grc : Gr β1 H1 (γ.hold D) H := w.ex.holdGr hD
  by_cases hi : i < xs.length
  · refine .inr ?_
    have hx : xs[i]? = some xs[i] := List.getElem?_eq_getElem hi
    have hpost := w.post
    rw [List.drop_eq_getElem_cons hi] at hpost
    obtain ⟨hck, o, S', hst, hpost⟩ := compLoop_cons (P := fun r => PostE W EX β1 H1 r Q) notF hpost
    refine ⟨src.go _ _ _ i grc w.sr hck hi, fun H' => ∃ γ Si vs ws, CW W EX Q heap stp ck xs D β1 H1 (i + 1) (xs.length - (i + 1)) H' γ Si vs ws, fun H' q => ⟨_, by rw [w.m]; omega, q⟩, fun x H' y => ?_⟩
    obtain ⟨ex', sr', rx⟩ := src.yld _ _ _ i _ x H' grc w.sr hck hx y
    -- the step
    rw [← hstp] at hst
    unfold compStp at hst
    cases hga : gg.asg xs[i] (Mi.wipe env own) with
    | none => rw [hga] at hst; cases hst
    | some env' =>
      rw [hga] at hst
      have hE1 : EnvR W.K (γ.hold D) H' (Mi.wipe env own) (L2.wipe σ own) := EnvR.ext (EnvR.gr (hE.wipe own) grc) ex'
      refine ⟨γ.hold D, Mi.wipe env own, xs[i], env', hE1, rx, hga, fun σ2 hE2 hw => ⟨by rw [hw own hin, lwipe_idem], ?_⟩⟩
      -- what comes behind the element
      have fin : ∀ {β4 : Be} {H4 : Hp} {S4 : Store} {t : T} {y : V}, Ext (γ.hold D) H' β4 H4 → SR W.K β4 H4 S4 → Rep W.K β4 H4 t y → o = some t → S' = S4 →
          ∃ acc, H4 D = some (.lst acc) ∧ acc.length < sizeLine ∧ ∃ γ Si vs ws, CW W EX Q heap stp ck xs D β1 H1 (i + 1) (xs.length - (i + 1)) (upd H4 D (.lst (acc ++ [y]))) γ Si vs ws := fun {β4 H4 S4 t y} e4 s4 r4 ho hS => by
        subst ho hS
        obtain ⟨γ4, eq4, x4⟩ := (ex'.trans e4).hold_inv
        subst eq4
        have hDl : D ∉ (γ.hold D).l := (w.sr.res D List.mem_cons_self).1
        have hD4 : H4 D = some (.lst ws) := ((ex'.trans e4).keep D _ w.at_ hDl).1
        have hlen := w.len
        have hxl := src.len
        have hwl := w.rs.length
        refine ⟨ws, hD4, by rw [← hwl, ← line_eq]; omega, γ4, S', vs ++ [t], ws ++ [y], rfl, hi, Ext.skip hD (w.ex.trans x4), s4.held, upd_same, ?_, by rw [List.length_append, List.length_singleton]; omega, ?_⟩
        · exact Reps.append (Reps.gr Gr.upd _ _ (Reps.ext (ex'.trans e4) _ _ w.rs)) (Reps.one (Rep.gr Gr.upd _ _ r4))
        · simpa [List.append_assoc] using hpost
      cases cond with
      | none =>
        simp only [tC, tYes, if_true]
        have hst' : bnd (ev (W.cfg d) elt env' Si) (fun y S => Res.ok (some y) S) = .ok o S' := hst
        refine ⟨γ.hold D, env', Si, sr', hE2, ?_⟩
        cases hev : ev (W.cfg d) elt env' Si with
        | fail => rw [hev] at hst'; cases hst'
        | err c S => rw [hev] at hst'; cases hst'
        | ok t S4 =>
          rw [hev] at hst'
          cases hst'
          intro β4 H4 y e4 s4 r4
          exact fin e4 s4 r4 rfl rfl
      | some c =>
        have hst' : bnd (ev (W.cfg d) c env' Si) (fun b S => match truthy S b with
            | some true => bnd (ev (W.cfg d) elt env' S) fun y S => .ok (some y) S
            | some false => .ok none S
            | none => .fail) = .ok o S' := hst
        refine ⟨γ.hold D, env', Si, sr', hE2, ?_⟩
        unfold evT
        cases hev : ev (W.cfg d) c env' Si with
        | fail => rw [hev] at hst'; cases hst'
        | err c S => rw [hev] at hst'; cases hst'
        | ok b S2 =>
          rw [hev, bnd_ok] at hst'
          rw [bnd_ok]
          cases htr : truthy S2 b with
          | none => rw [htr] at hst'; cases hst'
          | some k =>
            rw [htr] at hst'
            intro β2 H2 e2 s2
            cases k with
            | false =>
              show (@ite Prop (false = true) _ _ _)
              rw [if_neg (by decide)]
              have hst2 : Res.ok none S2 = .ok o S' := hst'
              cases hst2
              obtain ⟨γ4, eq4, x4⟩ := (ex'.trans e2).hold_inv
              subst eq4
              have hDl : D ∉ (γ.hold D).l := (w.sr.res D List.mem_cons_self).1
              refine ⟨γ4, _, vs, ws, rfl, hi, w.ex.trans x4, s2, ((ex'.trans e2).keep D _ w.at_ hDl).1, Reps.ext (ex'.trans e2) _ _ w.rs, Nat.le_succ_of_le w.len, hpost⟩
            | true =>
              show (@ite Prop (true = true) _ _ _)
              rw [if_pos rfl]
              have hst2 : bnd (ev (W.cfg d) elt env' S2) (fun y S => Res.ok (some y) S) = .ok o S' := hst'
              refine ⟨β2, env', S2, s2, hE2.ext e2, ?_⟩
              cases hev : ev (W.cfg d) elt env' S2 with
              | fail => rw [hev] at hst2; cases hst2
              | err c S => rw [hev] at hst2; cases hst2
              | ok t S4 =>
                rw [hev] at hst2
                cases hst2
                intro β4 H4 y e4 s4 r4
                exact fin (e2.trans e4) s4 r4 rfl rfl
  · have hie : i = xs.length := Nat.le_antisymm w.le (Nat.le_of_not_lt hi)
    subst hie
    have hpost := w.post
    rw [List.drop_length] at hpost
    obtain ⟨hck, hpost⟩ := compLoop_nil (P := fun r => PostE W EX β1 H1 r Q) notF hpost
    refine .inl ⟨src.stop _ _ _ grc w.sr hck, ?_⟩
    rw [List.append_nil] at hpost
    have hlen : vs.length ≤ line := Nat.le_trans w.len src.len
    have hDr : D ∉ γ.r := fun m => by
      rw [w.ex.same] at m
      obtain ⟨u, hu⟩ := (sr.res D m).2
      rw [hD] at hu
      cases hu
    cases heap with
    | false =>
      refine hpost γ H _ w.ex w.sr.free ⟨hlen, D, ws, rfl, w.at_, ?_, Reps.gr Gr.free _ _ w.rs⟩
      exact Be.not (w.sr.res D List.mem_cons_self).1 hDr
    | true =>
      refine hpost (γ.push D) H _ ?_ (w.sr.freeS hDr ⟨hlen, ws, w.at_, Reps.gr Gr.push _ _ w.rs⟩) ⟨D, rfl, ?_⟩
      · obtain ⟨ys, e⟩ := w.ex.pre
        refine ⟨⟨ys ++ [D], by show γ.l ++ [D] = _; rw [e, List.append_assoc]⟩, w.ex.same, fun a u h n => ?_⟩
        obtain ⟨h1, h2⟩ := w.ex.keep a u h n
        refine ⟨h1, fun mm => ?_⟩
        rcases List.mem_append.mp mm with mm | mm
        · exact h2 mm
        · exact ne_of_none h hD (List.mem_singleton.mp mm)
      · show (γ.l ++ [D])[Si.length]? = some D
        have hl : γ.l.length = Si.length := w.sr.len
        rw [← hl, List.getElem?_append_right (Nat.le_refl _), Nat.sub_self]
        rfl

theorem comp_lc {heap : Bool} {own : List Nat} {gg : MG} {it : ME} {cond : Option ME} {elt : ME} {elt' : Expr} {gens : List Comprehension} {scope : Scope} {pos : Pos} (h : eqE (.comp heap own gg it cond elt) Z (.ListComp elt' gens scope pos) = true)
    (hi : ∀ tg it', (eqI it Z tg it' || eqE it Z it') = true → PI X tg it' (tI W d EX it))
    (hc : ∀ c, cond = some c → ∀ (X' : Cx) (Z' : Sc), Good W d X' Z' NoX → ∀ c', eqE c Z' c' = true → PT X' c' (tT W d NoX c))
    (he : ∀ (X' : Cx) (Z' : Sc), Good W d X' Z' NoX → ∀ e', eqE elt Z' e' = true → PE X' e' (tE W d NoX elt)) :
    ∃ tg it' ifs, gens = [⟨tg, it', ifs, 0⟩] ∧ PI X tg it' (tI W d EX it) ∧ BlkOk X.N X.env.scope scope (ownB Z own) ∧
      (∀ (s : Shared) (H : Hp) (C : Addr) (cl : List (Str × Addr)) (fp : List Addr), PG (X.blk s H scope (compEnvC scope cl C X.env) fp) tg (tG W.K gg)) ∧
      (∀ (s : Shared) (H : Hp) (C : Addr) (cl : List (Str × Addr)) (fp : List Addr), PTs (X.blk s H scope (compEnvC scope cl C X.env) fp) ifs (tC W d cond)) ∧
      (∀ (s : Shared) (H : Hp) (C : Addr) (cl : List (Str × Addr)) (fp : List Addr), PE (X.blk s H scope (compEnvC scope cl C X.env) fp) elt' (tE W d NoX elt)) ∧
      (∀ x, foldedSetIterable it' X.env x = pure x) ∧
      ∀ σ H Q, tE W d EX (.comp heap own gg it cond elt) σ H Q → tLc (tI W d EX it) (tG W.K gg) (tC W d cond) (tE W d NoX elt) ((ownB Z own).map (·.2)) σ H Q := by
  unfold eqE at h
  split at h
  · rename_i tg it' ifs
    simp only [Bool.and_eq_true] at h
    obtain ⟨⟨⟨⟨⟨⟨h1, _⟩, h2⟩, h3⟩, h4⟩, h5⟩, h6⟩ := h
    have eo : (ownB Z own).map (·.2) = own := by
      unfold ownB
      rw [List.map_map]
      exact (List.map_congr_left fun a _ => rfl).trans (List.map_id _)
    have ok : BlkOk X.N X.env.scope scope (ownB Z own) := by
      rw [g.N, g.sc]
      exact blkOk_by h1
    have ht : ∀ (s : Shared) (H : Hp) (C : Addr) (cl : List (Str × Addr)) (fp : List Addr), PTs (X.blk s H scope (compEnvC scope cl C X.env) fp) ifs (tC W d cond) := fun s H C cl fp => by
      cases cond with
      | none =>
        cases ifs with
        | nil => exact pts_nil
        | cons i r => cases h6
      | some c =>
        cases ifs with
        | nil => cases h6
        | cons i r =>
          cases r with
          | cons j r => cases h6
          | nil => exact pts_one (hc c rfl _ _ (Good.blk g s H C cl fp) i h6)
    refine ⟨tg, it', ifs, rfl, hi tg it' h4, ok, fun s H C cl fp => sndG (Good.blk g s H C cl fp) gg tg h2, ht, fun s H C cl fp => he _ _ (Good.blk g s H C cl fp) elt' h5, fun x => fsi_of h4 _ x, fun σ H Q ⟨β, env, S, hS, hE, hp⟩ => ?_⟩
    rw [eo]
    rw [ev_comp] at hp
    refine ⟨β, env, S, hS, hE, ?_⟩
    cases hr : ev (W.cfg d) it env S with
    | fail => rw [hr] at hp; exact hp.elim
    | err c S' => rw [hr] at hp; exact hp
    | ok v S1 =>
      rw [hr, bnd_ok] at hp
      show (match itemsOf S1 v with
        | some (xs, q) => ∀ β' H' J, Ext β H β' H' → SR W.K β' H' S1 → Src W.K J xs (still q xs) β' H' → _
        | none => False)
      cases hit : itemsOf S1 v with
      | none => rw [hit] at hp; exact hp
      | some p =>
        obtain ⟨xs, q⟩ := p
        rw [hit] at hp
        intro β1 H1 J ex sr src D hD
        exact comp_core g (hE.ext ex) sr src hD h3 (PostE.ext hp ex)
  · cases h
theorem snd_comp {heap : Bool} {own : List Nat} {gg : MG} {it : ME} {cond : Option ME} {elt : ME} {e : Expr} (h : eqE (.comp heap own gg it cond elt) Z e = true)
    (hi : ∀ tg it', (eqI it Z tg it' || eqE it Z it') = true → PI X tg it' (tI W d EX it))
    (hc : ∀ c, cond = some c → ∀ (X' : Cx) (Z' : Sc), Good W d X' Z' NoX → ∀ c', eqE c Z' c' = true → PT X' c' (tT W d NoX c))
    (he : ∀ (X' : Cx) (Z' : Sc), Good W d X' Z' NoX → ∀ e', eqE elt Z' e' = true → PE X' e' (tE W d NoX elt)) : PE X e (tE W d EX (.comp heap own gg it cond elt)) := by
  cases e <;> try exact absurd (show false = true from h) (by decide)
  obtain ⟨tg, it', ifs, e1, p1, p2, p3, p4, p5, p6, p7⟩ := comp_lc g h hi hc he
  subst e1
  exact (pe_lc g.calm g.nd p1 p2 p3 p4 p5 p6).imp p7
end
end Mi
/-! MiC15: a tuple from its end; upper. -/
namespace Mi
open PySem PySem.Spec PyProof.Rows L2

theorem rev_pick (L : List Value) : ((List.range L.length).filterMap fun (m : Nat) => L[((L.length : Int) - 1 + (m : Int) * (-1)).toNat]?) = L.reverse := by
  have e : (List.range L.length).map (fun (m : Nat) => L[((L.length : Int) - 1 + (m : Int) * (-1)).toNat]?) = L.reverse.map some := by
    apply List.ext_getElem?
    intro i
    rw [List.getElem?_map, List.getElem?_map]
    by_cases h : i < L.length
    · rw [List.getElem?_range h, List.getElem?_reverse h]
      have e1 : ((L.length : Int) - 1 + (i : Int) * (-1)).toNat = L.length - 1 - i := by omega
      simp only [Option.map_some, e1]
      rw [List.getElem?_eq_getElem (by omega)]
      rfl
    · rw [List.getElem?_eq_none (by simpa using h), List.getElem?_eq_none (by simpa using h)]
      rfl
  have e2 : ((List.range L.length).filterMap fun (m : Nat) => L[((L.length : Int) - 1 + (m : Int) * (-1)).toNat]?) = ((List.range L.length).map (fun (m : Nat) => L[((L.length : Int) - 1 + (m : Int) * (-1)).toNat]?)).filterMap id := by
    rw [List.filterMap_map]
    rfl
  rw [e2, e, List.filterMap_map]
  show List.filterMap some L.reverse = _
  rw [List.filterMap_some]
theorem adjust_rev (n : Nat) : Builtin.Slice.sliceAdjust none none (-1) (n : Int) = ((n : Int) - 1, -1) := by
  unfold Builtin.Slice.sliceAdjust
  simp
theorem places_rev (n : Nat) : Builtin.Slice.slicePlaces ((n : Int) - 1) (-1) (-1) = n := by
  unfold Builtin.Slice.slicePlaces
  have h1 : ¬ ((-1 : Int) > 0) := by omega
  have h2 : -(-1 : Int) = 1 := by decide
  simp only [h1, if_false, h2, Int.ediv_one]
  split <;> omega
section
variable {prog : Program} {w : World} {A : Around} {E : Value → Shared → Prop} {s : Shared}
theorem getItem_tuple_rev {t sl : Addr} {items : Array Value} {k : Tok} {Q : Value → Shared → Prop} (ht : IsTup s.heap t items) (hs : s.heap.IsSliceOf sl .none .none (.int (-1) k))
    (h : Q (.ref s.heap.objs.size) { s with heap := s.heap.push { cls := .type "tuple", data := .seq items.toList.reverse.toArray } })
    (hsz : items.size ≤ sizeLine) : wpAny (model prog w) A (getItem (.ref t) (.ref sl)) Q E s := by
  have htake : sizeOk (.seq items.toList.reverse.toArray) := by
    show items.toList.reverse.toArray.size ≤ sizeLine
    rw [List.size_toArray, List.length_reverse, Array.length_toList]
    exact hsz
  obtain ⟨os, hos, hcs, hds⟩ := id hs
  have hTs : s.TypeIs (.ref sl) "slice" := ⟨os, hos, hcs⟩
  unfold getItem
  try with_reducible refine wpAny_holding ?_
  first | refine wpAny_bind (wpAny_pure ?_) | skip
  refine wpAny_bind (wpAny_sequenceKey ht.typeIs (by decide) ?_)
  refine wpAny_bind (wpAny_callSpecial?_slot (name := Str.ofString "__getitem__") ht.typeIs PyProof.Rows.slot_tuple_getitem
    (wpAny_call_entry PyProof.Rows.slot_tuple_getitem ht.typeIs entry_tuple_getitem ?_ (args_tuple_getitem _ _)))
  show wpAny _ _ (Builtin.Tuple.tupleItemsOf (.ref t) >>= _) _ _ s
  refine wpAny_bind (tupleItemsOf_ ht ?_)
  refine wpAny_bind (wpAny_typeOf hTs ?_)
  rw [if_pos (by decide)]
  refine wpAny_bind ?_
  unfold Builtin.Slice.sliceApplied Builtin.Slice.sliceFields
  refine wpAny_bind (wpAny_bind (wpAny_field hos hds (x := .none) rfl (wpAny_bind (wpAny_field hos hds (x := .none) rfl (wpAny_bind (wpAny_field hos hds (x := .int (-1) k) rfl (wpAny_pure ?_)))))))
  refine wpAny_bind (slicePart_int ?_)
  show wpAny _ _ (if ((-1 : Int) == 0) = true then _ else _) _ _ s
  rw [if_neg (by decide)]
  refine wpAny_bind (slicePart_none (wpAny_bind (slicePart_none (wpAny_bind (wpAny_pure ?_)))))
  show wpAny _ _ (match Builtin.Slice.sliceAdjust none none (-1) (items.size : Int) with | (lo, hi) => pure (lo, (-1 : Int), Builtin.Slice.slicePlaces lo hi (-1))) _ _ s
  rw [adjust_rev]
  show wpAny _ _ (pure ((items.size : Int) - 1, (-1 : Int), Builtin.Slice.slicePlaces ((items.size : Int) - 1) (-1) (-1))) _ _ s
  rw [places_rev]
  refine wpAny_pure ?_
  show wpAny _ _ (if (((items.size : Int) - 1) == 0 && (-1 : Int) == 1 && items.size == items.size) = true then _ else _) _ _ s
  rw [if_neg (by intro q; rw [Bool.and_eq_true, Bool.and_eq_true] at q; exact absurd q.1.2 (by decide))]
  have e : ((List.range items.size).filterMap fun (m : Nat) => items[((items.size : Int) - 1 + (m : Int) * (-1)).toNat]?) = items.toList.reverse := by
    have := rev_pick items.toList
    simpa using this
  rw [e]
  first
    | exact wpAny_bind (m := Builtin.Tuple.tupleExact _) (wpAny_newObj_type (wpAny_pure ⟨_, rfl, wpAny_pure h⟩) htake)
    | exact wpAny_bind (m := Builtin.Tuple.tupleExact _) (wpAny_newObj_type (wpAny_bind (wpAny_pure (wpAny_pure ⟨_, rfl, wpAny_pure h⟩))) htake)
    | exact wpAny_bind (wpAny_bind (m := Builtin.Tuple.tupleExact _) (wpAny_newObj_type (wpAny_pure (wpAny_pure ⟨_, rfl, wpAny_pure h⟩)) htake))
    | exact wpAny_bind (wpAny_bind (m := Builtin.Tuple.tupleExact _) (wpAny_newObj_type (wpAny_pure ⟨_, rfl, wpAny_pure h⟩) htake))
end
def tRevT (K : PySem.W.Frag) (te : TE) : TE := fun σ H Q => te σ H fun x H1 => ∃ a xs, x = .ref a ∧ SqT K H1 a xs ∧ ∀ p, H1 p = none → Q (.ref p) (upd H1 p (.tup xs.reverse))
theorem pe_revT {X : Cx} {e : Expr} {te : TE} {k : Nat} {p1 p2 p3 pos : Pos} (he : PE X e te) : PE X (.Subscript e (.Slice none none (some (.UnaryOp .USub (.Constant (.int 1) k p1) p2)) p3) pos) (tRevT X.K te) := by
  refine ⟨fun pins s σ H Q I h => ?_⟩
  refine Subscript_ (thn (he.run pins s σ H _ I h) fun v s1 ⟨x, H1, I1, r1, q1⟩ => ?_)
  obtain ⟨a, xs, ex, hx, q⟩ := q1
  subst ex
  cases r1
  have hst : PO X (some (.UnaryOp .USub (.Constant (.int 1) k p1) p2)) (tPart (tUn (rU fun i => .int (-i)) (L2.tC (.int 1)))) := po_some (pe_un un_neg pe_int)
  refine wpAny_Slice (thn (po_none.run pins s1 σ H1 (fun o H2 => o = none ∧ H2 = H1) I1 ⟨rfl, rfl⟩) fun vl s2 ⟨l, H2, I2, pl, el, e2⟩ => ?_)
  subst el e2
  refine thn (po_none.run pins s2 σ H2 (fun o H3 => o = none ∧ H3 = H2) I2 ⟨rfl, rfl⟩) fun vu s3 ⟨u, H3, I3, pu, eu, e3⟩ => ?_
  subst eu e3
  refine thn (hst.run pins s3 σ H3 (fun o H4 => o = some (-1) ∧ H4 = H3) I3 ⟨1, rfl, -1, rfl, rfl, rfl⟩) fun vs s4 ⟨o, H4, I4, ps, eo, e4⟩ => ?_
  subst eo e4
  have I5 : Inv X pins σ H4 { s4 with heap := s4.heap.push { cls := .type "slice", data := .fields #[vl, vu, vs] } } := I4.kept (t' := s4.toks) fun b ob q => Heap.get?_push_of_some _ q
  obtain ⟨its, r, ht, hz⟩ := I5.tuple hx
  have hlen := r.length
  show wpAny (model X.prog X.w) X.A (subscriptTail e (.Slice none none (some (.UnaryOp .USub (.Constant (.int 1) k p1) p2)) p3) (.ref a) (.ref s4.heap.objs.size)) (EP X pins σ Q) X.xe { s4 with heap := s4.heap.push { cls := .type "slice", data := .fields #[vl, vu, vs] } }
  refine tail_any (ops := [.ref a, .ref s4.heap.objs.size]) ht.typeIs (PyProof.Rows.slot_tuple_getitem.lookup) ?_ (by with_unfolding_all rfl)
  cases pl
  cases pu
  cases ps
  refine getItem_tuple_rev ht (Heap.IsSliceOf.new _ _ _ _) ?_ (by rw [List.size_toArray]; omega)
  refine ⟨.ref _, _, I5.laid (t' := s4.toks) (o := .tup xs.reverse) (fun b ob q => Heap.get?_push_of_some _ q) (Nat.le_refl _) ?_, rfl, q _ (I5.hok.fresh (Nat.le_refl _))⟩
  exact ⟨by rw [List.length_reverse]; exact hz, _, r.reverse, ⟨_, Heap.get?_push_size _ rfl, rfl, _, rfl⟩⟩

/-! ### upper -/
theorem upper_cp : ∀ c : Fin 128, Unicode.upperOf c.1 = [if 97 ≤ c.1 ∧ c.1 ≤ 122 then c.1 - 32 else c.1] := by decide +kernel
theorem nat_of : ∀ k : Fin 128, (Char.ofNat k.1).toNat = k.1 := by decide +kernel
theorem upperC_nat {c : Char} (h : c.toNat < 128) : (upperC c).toNat = if 97 ≤ c.toNat ∧ c.toNat ≤ 122 then c.toNat - 32 else c.toNat := by
  unfold upperC
  have e : ('a' ≤ c ∧ c ≤ 'z') ↔ (97 ≤ c.toNat ∧ c.toNat ≤ 122) := by
    rw [Char.le_def, Char.le_def, UInt32.le_iff_toNat_le, UInt32.le_iff_toNat_le]
    exact Iff.rfl
  by_cases q : 97 ≤ c.toNat ∧ c.toNat ≤ 122
  · rw [if_pos (e.mpr q), if_pos q]
    exact nat_of ⟨c.toNat - 32, by omega⟩
  · rw [if_neg (fun z => q (e.mp z)), if_neg q]
theorem flat_one (f : Nat → List Nat) (h : Nat → Nat) : ∀ L : List Nat, (∀ c ∈ L, f c = [h c]) → ((L.map fun c => (f c).toArray).map Array.toList).flatten = L.map h
  | [], _ => rfl
  | c :: r, q => by
    rw [List.map_cons, List.map_cons, List.flatten_cons, List.map_cons, flat_one f h r fun d hd => q d (List.mem_cons_of_mem _ hd), q c List.mem_cons_self]
    rfl
theorem upper_ok {s : List Char} (h : s.all (fun c => decide (c.toNat < 128)) = true) : Txt.upper (toStr s) = toStr (s.map upperC) := by
  unfold Txt.upper PySem.placed toStr codes
  congr 1
  apply Array.toList_inj.mp
  rw [Array.toList_flatten, Array.toList_mapIdx]
  have e : List.mapIdx (fun (_ : Nat) c => (Unicode.upperOf c).toArray) (List.map Char.toNat s) = (List.map Char.toNat s).map fun c => (Unicode.upperOf c).toArray := by
    apply List.ext_getElem?
    intro i
    simp [List.getElem?_mapIdx]
  show (List.map Array.toList (List.mapIdx (fun (_ : Nat) c => (Unicode.upperOf c).toArray) (List.map Char.toNat s))).flatten = _
  rw [e, flat_one _ (fun c => if 97 ≤ c ∧ c ≤ 122 then c - 32 else c) _ fun c hc => ?_]
  · show List.map _ (List.map Char.toNat s) = List.map Char.toNat (s.map upperC)
    rw [List.map_map, List.map_map]
    refine List.map_congr_left fun c hc => ?_
    exact (upperC_nat (of_decide_eq_true (List.all_eq_true.mp h c hc))).symm
  · obtain ⟨d, hd, e⟩ := List.mem_map.mp hc
    subst e
    exact upper_cp ⟨d.toNat, of_decide_eq_true (List.all_eq_true.mp h d hd)⟩
section
variable {W : Wd} {d : Nat} {EX : XK} {X : Cx} {Z : Sc} (g : Good W d X Z EX)
include g
theorem snd_rev {m : ME} {e : Expr} {k : Nat} {p1 p2 p3 pos : Pos} (he : PE X e (tE W d EX m)) : PE X (.Subscript e (.Slice none none (some (.UnaryOp .USub (.Constant (.int 1) k p1) p2)) p3) pos) (tE W d EX (.rev m)) := by
  have kk := g.K
  refine ⟨fun pins s σ H Q I ⟨β, env, S, hS, hE, hp⟩ => ?_⟩
  rw [ev] at hp
  cases hr : ev (W.cfg d) m env S with
  | fail => rw [hr] at hp; exact hp.elim
  | err c S' => 
    rw [hr] at hp
    exact (pe_revL he).run pins s σ H Q I ⟨β, env, S, hS, hE, by rw [hr]; exact hp⟩
  | ok v S1 =>
    rw [hr, bnd_ok] at hp
    unfold revOf at hp
    cases hv : view S1 v with
    | tup xs =>
      rw [hv] at hp
      have hp : PostE W EX β H (.ok (.tup xs.reverse) S1) Q := hp
      refine (pe_revT he).run pins s σ H Q I ⟨β, env, S, hS, hE, ?_⟩
      rw [hr]
      intro β1 H1 x ex sr rx
      have hv' := view_tup hv
      subst hv'
      obtain ⟨hl, a, vs, e1, hH, _, rs⟩ := rx
      have := PostE.newTup (PostE.ext hp ex) sr rs.reverse (by rw [List.length_reverse]; exact hl)
      exact ⟨a, vs, e1, .inl (.inl hH), this.2⟩
    | lst xs =>
      rw [hv] at hp
      have hp : PostE W EX β H (newList false xs.reverse S1) Q := hp
      refine (pe_revL he).run pins s σ H Q I ⟨β, env, S, hS, hE, ?_⟩
      rw [hr]
      intro β1 H1 x ex sr rx
      obtain ⟨hl, a, vs, e1, hH, rs⟩ := view_lst sr rx hv
      have := PostE.newLst (PostE.ext hp ex) sr rs.reverse (by rw [List.length_reverse]; exact hl)
      exact ⟨a, vs, e1, .inl (.inl hH), this.2⟩
    | _ => rw [hv] at hp; exact (show False from hp).elim
theorem snd_upper {mo : ME} {o : Expr} {ap cp : Pos} (ho : eqE mo Z o = true) (hl : (ap.endLine == cp.line) = true) (po : PE X o (tE W d EX mo)) : PE X (.Call (.Attribute o "upper" ap) [] [] cp) (tE W d EX (.mt .upper mo [])) := by
  refine (pe_upper po (base_of ho _ X.env _) hl).imp fun σ H Q ⟨β, env, S, hS, hE, hp⟩ => ?_
  rw [ev] at hp
  refine ⟨β, env, S, hS, hE, (PostE.bnd hp).mono fun x H1 ⟨β1, S1, v, x1, s1, r1, hp1⟩ => ?_⟩
  by_cases hq : mtPre .upper v S1 = true
  case neg => rw [if_neg hq] at hp1; exact hp1.elim
  rw [if_pos hq, evs, bnd_ok] at hp1
  cases v with
  | str s =>
    obtain ⟨e, hle⟩ := r1
    subst e
    have hp2 : PostE W EX β1 H1 (if s.length ≤ 1000 ∧ s.all (fun c => decide (c.toNat < 128)) = true then .ok (.str (s.map upperC)) S1 else .fail) Q := hp1
    by_cases hc : s.length ≤ 1000 ∧ s.all (fun c => decide (c.toNat < 128)) = true
    · rw [if_pos hc] at hp2
      refine ⟨⟨_, rfl⟩, _, rfl, rfl, by rw [toStr_length]; omega, ?_⟩
      rw [upper_ok hc.2]
      exact hp2.here s1 ⟨rfl, by rw [List.length_map]; exact hle⟩
    · rw [if_neg hc] at hp2; exact hp2.elim
  | _ => cases hq
end
end Mi
/-! MiC16: all expressions. -/
namespace Mi
open PySem PySem.Spec PyProof.Rows L2

def Snd3 (W : Wd) (d : Nat) (X : Cx) (EX : XK) (m : ME) (e : Expr) : Prop :=
  PE X e (tE W d EX m) ∧ PT X e (tT W d EX m) ∧ ((∃ op vs p, e = .BoolOp op vs p) → PW X e (tT W d EX m))
/-- a piece of the small syntax is sound wherever it stands -/
structure Snd (W : Wd) (d : Nat) (m : ME) : Prop where
  all : ∀ (X : Cx) (Z : Sc) (EX : XK), Good W d X Z EX → ∀ e, eqE m Z e = true → Snd3 W d X EX m e
  it : ∀ (X : Cx) (Z : Sc) (EX : XK), Good W d X Z EX → ∀ tg e, (eqI m Z tg e || eqE m Z e) = true → PI X tg e (tI W d EX m)
structure SndA (W : Wd) (d : Nat) (ms : List ME) : Prop where
  all : ∀ (X : Cx) (Z : Sc) (EX : XK), Good W d X Z EX → ∀ es, eqEs ms Z es = true → PA X es (tA W d EX ms)
structure SndO (W : Wd) (d : Nat) (o : Option ME) : Prop where
  all : ∀ (X : Cx) (Z : Sc) (EX : XK), Good W d X Z EX → ∀ e, eqO o Z e = true → PO X e (tO W d EX o)
  tst : ∀ c, o = some c → ∀ (X : Cx) (Z : Sc), Good W d X Z NoX → ∀ e, eqE c Z e = true → PT X e (tT W d NoX c)

theorem eqI_no {m : ME} {Z : Sc} {tg e : Expr} (h : isIter m = false) : eqI m Z tg e = false := by
  cases m <;> first | rfl | cases h
section
variable {W : Wd} {d : Nat}
theorem Snd.of {m : ME} (h : isIter m = false) (all : ∀ (X : Cx) (Z : Sc) (EX : XK), Good W d X Z EX → ∀ e, eqE m Z e = true → Snd3 W d X EX m e) : Snd W d m :=
  ⟨all, fun X Z EX g tg e q => by
    rw [eqI_no h, Bool.false_or] at q
    exact pi_of g (all X Z EX g e q).1⟩
def plainB : Expr → Bool
  | .UnaryOp .Not _ _ | .BoolOp .. | .IfExp .. | .Compare .. => false
  | _ => true
theorem plain_true {e : Expr} (h : plainB e = true) (env : PySem.Env) (whole : Sem Value) : isTrue e env whole = (do let v ← whole; standAt e.pos; holding [v] (PySem.truthy v)) := by
  cases e with
  | UnaryOp op a p => cases op <;> first | rfl | cases h
  | BoolOp _ _ _ => cases h
  | IfExp _ _ _ _ => cases h
  | Compare _ _ _ _ => cases h
  | _ => rfl
theorem s3_of {X : Cx} {Z : Sc} {EX : XK} {m : ME} {e : Expr} (g : Good W d X Z EX) (he : PE X e (tE W d EX m)) (h : plainB e = true) : Snd3 W d X EX m e :=
  ⟨he, tst_of g he (plain_true h _), fun ⟨op, vs, p, q⟩ => by subst q; cases h⟩
theorem pt_ifE {X : Cx} {t a b : Expr} {p : Pos} {tt ta tb : TT} (ht : PT X t tt) (ha : PT X a ta) (hb : PT X b tb) : PT X (.IfExp t a b p) (fun σ H Q => tt σ H fun k H1 => if k = true then ta σ H1 Q else tb σ H1 Q) := by
  refine ⟨fun pins s σ H Q I h => ?_⟩
  show wpAny _ _ (do if ← isTrue t X.env (eval t X.env) then isTrue a X.env (eval a X.env) else isTrue b X.env (eval b X.env)) _ _ _
  refine wpAny_bind (thn (ht.run pins s σ H _ I h) fun k s1 ⟨H1, I1, q⟩ => ?_)
  cases k with
  | true => exact ha.run pins s1 σ H1 Q I1 q
  | false => exact hb.run pins s1 σ H1 Q I1 q
theorem S_var {i : Nat} : Snd W d (.var i) := .of rfl fun X Z EX g e h => by
  have he := snd_var g h
  cases e <;> try exact absurd (show false = true from h) (by decide)
  exact s3_of g he rfl
theorem S_int {i : Int} : Snd W d (.int i) := .of rfl fun X Z EX g e h => by
  have he := snd_int g h
  cases e <;> try exact absurd (show false = true from h) (by decide)
  exact s3_of g he rfl
theorem S_str {i : List Char} : Snd W d (.str i) := .of rfl fun X Z EX g e h => by
  have he := snd_str g h
  cases e <;> try exact absurd (show false = true from h) (by decide)
  exact s3_of g he rfl
theorem S_bl {i : Bool} : Snd W d (.bl i) := .of rfl fun X Z EX g e h => by
  have he := snd_bl g h
  cases e <;> try exact absurd (show false = true from h) (by decide)
  exact s3_of g he rfl
theorem S_non : Snd W d .non := .of rfl fun X Z EX g e h => by
  have he := snd_non g h
  cases e <;> try exact absurd (show false = true from h) (by decide)
  exact s3_of g he rfl
theorem S_glob (ok : W.Ok) {i : Nat} : Snd W d (.glob i) := .of rfl fun X Z EX g e h => by
  have he := snd_glob g ok h
  cases e <;> try exact absurd (show false = true from h) (by decide)
  exact s3_of g he rfl
theorem S_tup {es : List ME} (ha : SndA W d es) : Snd W d (.tup es) := .of rfl fun X Z EX g e h => by
  cases e <;> try exact absurd (show false = true from h) (by decide)
  simp only [eqE, Bool.and_eq_true, decide_eq_true_eq] at h
  exact s3_of g (snd_tup (ha.all X Z EX g _ h.1) h.2) rfl
theorem S_lst {hp : Bool} {es : List ME} (ha : SndA W d es) : Snd W d (.lst hp es) := .of rfl fun X Z EX g e h => by
  cases e <;> try exact absurd (show false = true from h) (by decide)
  simp only [eqE, Bool.and_eq_true, decide_eq_true_eq] at h
  exact s3_of g (snd_lst (ha.all X Z EX g _ h.1) h.2) rfl
theorem S_dict {ks : List (List Char)} {vs : List ME} : Snd W d (.dict ks vs) := .of rfl fun X Z EX g e h => by
  cases e <;> try exact absurd (show false = true from h) (by decide)
  simp [eqE, dispDone] at h
theorem S_bin {hp : Bool} {op : BOp} {a b : ME} (ha : Snd W d a) (hb : Snd W d b) : Snd W d (.bin hp op a b) := .of rfl fun X Z EX g e h => by
  cases e <;> try exact absurd (show false = true from h) (by decide)
  simp only [eqE, Bool.and_eq_true, decide_eq_true_eq] at h
  obtain ⟨⟨h1, h2⟩, h3⟩ := h
  subst h1
  exact s3_of g (snd_bin g (ha.all X Z EX g _ h2).1 (hb.all X Z EX g _ h3).1) rfl
theorem S_neg {a : ME} (ha : Snd W d a) : Snd W d (.neg a) := .of rfl fun X Z EX g e h => by
  cases e <;> try exact absurd (show false = true from h) (by decide)
  rename_i op a' p
  cases op <;> try exact absurd (show false = true from h) (by decide)
  simp only [eqE] at h
  exact s3_of g (snd_neg g (ha.all X Z EX g _ h).1) rfl
theorem S_not {a : ME} (ha : Snd W d a) : Snd W d (.not a) := .of rfl fun X Z EX g e h => by
  cases e <;> try exact absurd (show false = true from h) (by decide)
  rename_i op a' p
  cases op <;> try exact absurd (show false = true from h) (by decide)
  simp only [eqE] at h
  obtain ⟨q1, q2, _⟩ := ha.all X Z EX g _ h
  exact ⟨snd_not g q1, tst_not q2, fun ⟨_, _, _, q⟩ => nomatch q⟩
theorem S_and {a b : ME} (ha : Snd W d a) (hb : Snd W d b) : Snd W d (.and_ a b) := .of rfl fun X Z EX g e h => by
  cases e <;> try exact absurd (show false = true from h) (by decide)
  rename_i op vs p
  cases op <;> try exact absurd (show false = true from h) (by decide)
  cases vs with
  | nil => exact absurd (show false = true from h) (by decide)
  | cons a' vs =>
    cases vs with
    | nil => exact absurd (show false = true from h) (by decide)
    | cons b' r =>
      cases r with
      | nil =>
        have h : (eqE a Z a' && eqE b Z b') = true := h
        rw [Bool.and_eq_true] at h
        obtain ⟨q1, q2, _⟩ := ha.all X Z EX g _ h.1
        obtain ⟨r1, r2, _⟩ := hb.all X Z EX g _ h.2
        have w := tst_and q2 (pw_and1 (pos := p) r2)
        exact ⟨snd_and g q1 (pe_one r1), w.pt, fun _ => w⟩
      | cons c' r =>
        have h : (eqE a Z a' && eqE b Z (.BoolOp .And (b' :: c' :: r) p)) = true := h
        rw [Bool.and_eq_true] at h
        obtain ⟨q1, q2, _⟩ := ha.all X Z EX g _ h.1
        obtain ⟨r1, _, r3⟩ := hb.all X Z EX g _ h.2
        have w := tst_and q2 (r3 ⟨_, _, _, rfl⟩)
        exact ⟨snd_and g q1 r1, w.pt, fun _ => w⟩
theorem S_or {a b : ME} (ha : Snd W d a) (hb : Snd W d b) : Snd W d (.or_ a b) := .of rfl fun X Z EX g e h => by
  cases e <;> try exact absurd (show false = true from h) (by decide)
  rename_i op vs p
  cases op <;> try exact absurd (show false = true from h) (by decide)
  cases vs with
  | nil => exact absurd (show false = true from h) (by decide)
  | cons a' vs =>
    cases vs with
    | nil => exact absurd (show false = true from h) (by decide)
    | cons b' r =>
      cases r with
      | nil =>
        have h : (eqE a Z a' && eqE b Z b') = true := h
        rw [Bool.and_eq_true] at h
        obtain ⟨q1, q2, _⟩ := ha.all X Z EX g _ h.1
        obtain ⟨r1, r2, _⟩ := hb.all X Z EX g _ h.2
        have w := tst_or q2 (pw_or1 (pos := p) r2)
        exact ⟨snd_or g q1 (pe_one r1), w.pt, fun _ => w⟩
      | cons c' r =>
        have h : (eqE a Z a' && eqE b Z (.BoolOp .Or (b' :: c' :: r) p)) = true := h
        rw [Bool.and_eq_true] at h
        obtain ⟨q1, q2, _⟩ := ha.all X Z EX g _ h.1
        obtain ⟨r1, _, r3⟩ := hb.all X Z EX g _ h.2
        have w := tst_or q2 (r3 ⟨_, _, _, rfl⟩)
        exact ⟨snd_or g q1 r1, w.pt, fun _ => w⟩
theorem S_cmp {op : COp} {a b : ME} (ha : Snd W d a) (hb : Snd W d b) : Snd W d (.cmp op a b) := .of rfl fun X Z EX g e h => by
  cases e <;> try exact absurd (show false = true from h) (by decide)
  rename_i a' ops cs p
  match ops, cs, h with
  | [o], [b'], h =>
    have h : (decide (o = cmpOf op) && eqE a Z a' && eqE b Z b' && !isSet b') = true := h
    simp only [Bool.and_eq_true, decide_eq_true_eq] at h
    obtain ⟨⟨⟨h1, h2⟩, h3⟩, h4⟩ := h
    subst h1
    have h4 : isSet b' = false := by simpa using h4
    exact ⟨snd_cmp g (ha.all X Z EX g _ h2).1 (hb.all X Z EX g _ h3).1 h4, tst_cmp g (ha.all X Z EX g _ h2).1 (hb.all X Z EX g _ h3).1 h4, fun ⟨_, _, _, q⟩ => nomatch q⟩
  | [], _, h => simp [eqE] at h
  | [_], [], h => simp [eqE] at h
  | [_], _ :: _ :: _, h => simp [eqE] at h
  | _ :: _ :: _, _, h => simp [eqE] at h
theorem S_chain {o1 o2 : COp} {a b c : ME} (ha : Snd W d a) (hb : Snd W d b) (hc : Snd W d c) : Snd W d (.chain o1 o2 a b c) := .of rfl fun X Z EX g e h => by
  cases e <;> try exact absurd (show false = true from h) (by decide)
  rename_i a' ops cs p
  match ops, cs, h with
  | [o, o'], [b', c'], h =>
    have h : (decide (o = cmpOf o1) && decide (o' = cmpOf o2) && eqE a Z a' && eqE b Z b' && eqE c Z c' && !isSet c') = true := h
    simp only [Bool.and_eq_true, decide_eq_true_eq] at h
    obtain ⟨⟨⟨⟨⟨h1, h1'⟩, h2⟩, h3⟩, h5⟩, h4⟩ := h
    subst h1 h1'
    have h4 : isSet c' = false := by simpa using h4
    exact ⟨snd_chain g (ha.all X Z EX g _ h2).1 (hb.all X Z EX g _ h3).1 (hc.all X Z EX g _ h5).1 h4, tst_chain g (ha.all X Z EX g _ h2).1 (hb.all X Z EX g _ h3).1 (hc.all X Z EX g _ h5).1 h4, fun ⟨_, _, _, q⟩ => nomatch q⟩
  | [], _, h => simp [eqE] at h
  | [_], _, h => simp [eqE] at h
  | [_, _], [], h => simp [eqE] at h
  | [_, _], [_], h => simp [eqE] at h
  | [_, _], _ :: _ :: _ :: _, h => simp [eqE] at h
  | _ :: _ :: _ :: _, _, h => simp [eqE] at h
theorem S_ife {t a b : ME} (ht : Snd W d t) (ha : Snd W d a) (hb : Snd W d b) : Snd W d (.ife t a b) := .of rfl fun X Z EX g e h => by
  cases e <;> try exact absurd (show false = true from h) (by decide)
  simp only [eqE, Bool.and_eq_true] at h
  obtain ⟨⟨h1, h2⟩, h3⟩ := h
  obtain ⟨_, q1, _⟩ := ht.all X Z EX g _ h1
  obtain ⟨q2, q2', _⟩ := ha.all X Z EX g _ h2
  obtain ⟨q3, q3', _⟩ := hb.all X Z EX g _ h3
  refine ⟨snd_ife q1 q2 q3, (pt_ifE q1 q2' q3').imp fun σ H Q ⟨β, env, S, hS, hE, hp⟩ => ?_, fun ⟨_, _, _, q⟩ => nomatch q⟩
  rw [evT_ife] at hp
  refine ⟨β, env, S, hS, hE, (PostT.bndT hp).mono fun k H1 ⟨β1, S1, x1, s1, hp1⟩ => ?_⟩
  cases k with
  | true => exact ⟨β1, env, S1, s1, hE.ext x1, hp1⟩
  | false => exact ⟨β1, env, S1, s1, hE.ext x1, hp1⟩
theorem S_call (ok : W.Ok) (F : W.Fns d) {f : Nat} {es : List ME} (ha : SndA W d es) : Snd W d (.call f es) := .of rfl fun X Z EX g e h => by
  cases e <;> try exact absurd (show false = true from h) (by decide)
  rename_i fn args kws p
  cases fn <;> try exact absurd (show false = true from h) (by decide)
  cases kws <;> try exact absurd (show false = true from h) (by decide)
  simp only [eqE, Bool.and_eq_true, decide_eq_true_eq] at h
  obtain ⟨⟨⟨⟨h1, h2⟩, h3⟩, h4⟩, h5⟩ := h
  cases args with
  | nil => cases h5
  | cons a as =>
    cases es with
    | nil => simp [eqEs] at h4
    | cons m ms => exact s3_of g (snd_call g ok F h1 h2 h3 h4 (ha.all X Z EX g _ h4)) rfl
theorem S_isi (ok : W.Ok) {t : TY} {a : ME} (ha : Snd W d a) : Snd W d (.isi t a) := .of rfl fun X Z EX g e h => by
  cases e <;> try exact absurd (show false = true from h) (by decide)
  rename_i fn args kws p
  cases fn <;> try exact absurd (show false = true from h) (by decide)
  match args, kws, h with
  | [a', t'], [], h =>
    simp only [eqE, Bool.and_eq_true, decide_eq_true_eq] at h
    obtain ⟨⟨⟨h1, h2⟩, h3⟩, h4⟩ := h
    subst h1
    exact s3_of g (snd_isi g ok h2 h3 h4 (ha.all X Z EX g _ h3).1) rfl
  | [], _, h => simp [eqE] at h
  | [_], _, h => simp [eqE] at h
  | [_, _], _ :: _, h => simp [eqE] at h
  | _ :: _ :: _ :: _, _, h => simp [eqE] at h
theorem S_sub {a i : ME} (ha : Snd W d a) (hi : Snd W d i) : Snd W d (.sub a i) := .of rfl fun X Z EX g e h => by
  cases e <;> try exact absurd (show false = true from h) (by decide)
  simp only [eqE, Bool.and_eq_true] at h
  obtain ⟨⟨h1, h2⟩, h3⟩ := h
  exact s3_of g (snd_sub g (ha.all X Z EX g _ h1).1 (hi.all X Z EX g _ h2).1 (by simpa using h3)) rfl
theorem S_slice {a : ME} {lo hi : Option ME} (ha : Snd W d a) (hl : SndO W d lo) (hh : SndO W d hi) : Snd W d (.slice a lo hi) := .of rfl fun X Z EX g e h => by
  cases e <;> try exact absurd (show false = true from h) (by decide)
  rename_i a' sl p
  cases sl <;> try exact absurd (show false = true from h) (by decide)
  rename_i lo' hi' st p2
  cases st <;> try exact absurd (show false = true from h) (by decide)
  simp only [eqE, Bool.and_eq_true] at h
  obtain ⟨⟨h1, h2⟩, h3⟩ := h
  exact s3_of g (snd_slice g (ha.all X Z EX g _ h1).1 (hl.all X Z EX g _ h2) (hh.all X Z EX g _ h3)) rfl
theorem S_rev {a : ME} (ha : Snd W d a) : Snd W d (.rev a) := .of rfl fun X Z EX g e h => by
  cases e <;> try exact absurd (show false = true from h) (by decide)
  rename_i a' sl p
  cases sl <;> try exact absurd (show false = true from h) (by decide)
  rename_i lo' hi' st p2
  cases lo' <;> try exact absurd (show false = true from h) (by decide)
  cases hi' <;> try exact absurd (show false = true from h) (by decide)
  cases st <;> try exact absurd (show false = true from h) (by decide)
  rename_i st
  cases st <;> try exact absurd (show false = true from h) (by decide)
  rename_i op c p3
  cases op <;> try exact absurd (show false = true from h) (by decide)
  cases c <;> try exact absurd (show false = true from h) (by decide)
  rename_i c k p4
  cases c <;> try exact absurd (show false = true from h) (by decide)
  rename_i i
  by_cases hi : i = 1
  · subst hi
    have h : eqE a Z a' = true := by simpa [eqE] using h
    exact s3_of g (snd_rev g (ha.all X Z EX g _ h).1) rfl
  · exfalso
    simp [eqE, hi] at h
theorem S_comp {hp : Bool} {own : List Nat} {gg : MG} {it : ME} {cond : Option ME} {elt : ME} (hi : Snd W d it) (hc : SndO W d cond) (he : Snd W d elt) : Snd W d (.comp hp own gg it cond elt) := .of rfl fun X Z EX g e h => by
  have q := snd_comp g h (fun tg it' h => hi.it X Z EX g tg it' h) (fun c hcc X' Z' g' c' h => hc.tst c hcc X' Z' g' c' h) (fun X' Z' g' e' h => (he.all X' Z' NoX g' e' h).1)
  cases e <;> try exact absurd (show false = true from h) (by decide)
  exact s3_of g q rfl
theorem S_rangeI (ok : W.Ok) {es : List ME} (ha : SndA W d es) : Snd W d (.rangeI es) where
  all := fun X Z EX g e h => by cases e <;> exact absurd (show false = true from h) (by decide)
  it := fun X Z EX g tg e h => by
    have h' : eqI (.rangeI es) Z tg e = true := by
      rw [Bool.or_eq_true] at h
      rcases h with h | h
      · exact h
      · cases e <;> exact absurd (show false = true from h) (by decide)
    cases e <;> try exact absurd (show false = true from h') (by decide)
    rename_i fn args kws p
    cases fn <;> try exact absurd (show false = true from h') (by decide)
    rename_i x p1
    cases kws <;> try exact absurd (show false = true from h') (by decide)
    have hx : x = "range" := by
      simp only [eqI, Bool.and_eq_true, decide_eq_true_eq] at h'
      exact h'.1.1.1
    have hes : eqEs es Z args = true := by
      simp only [eqI, Bool.and_eq_true, decide_eq_true_eq] at h'
      exact h'.1.2
    subst hx
    exact pi_rng g h' (mgB g ok (by decide)) (ha.all X Z EX g _ hes)
theorem S_enumI {a : ME} : Snd W d (.enumI a) where
  all := fun X Z EX g e h => by cases e <;> exact absurd (show false = true from h) (by decide)
  it := fun X Z EX g tg e h => by
    exfalso
    rw [Bool.or_eq_true] at h
    rcases h with h | h
    · cases e <;> try exact absurd (show false = true from h) (by decide)
      rename_i fn args kws p
      cases fn <;> try exact absurd (show false = true from h) (by decide)
      cases args with
      | nil => simp [eqI] at h
      | cons x r => cases r <;> cases kws <;> simp [eqI, enumDone] at h
    · cases e <;> exact absurd (show false = true from h) (by decide)
theorem S_zipI (ok : W.Ok) {a b : ME} (ha : Snd W d a) (hb : Snd W d b) : Snd W d (.zipI a b) where
  all := fun X Z EX g e h => by cases e <;> exact absurd (show false = true from h) (by decide)
  it := fun X Z EX g tg e h => by
    have h' : eqI (.zipI a b) Z tg e = true := by
      rw [Bool.or_eq_true] at h
      rcases h with h | h
      · exact h
      · cases e <;> exact absurd (show false = true from h) (by decide)
    cases e <;> try exact absurd (show false = true from h') (by decide)
    rename_i fn args kws p
    cases fn <;> try exact absurd (show false = true from h') (by decide)
    rename_i x p1
    match args, kws, h' with
    | [e1, e2], [], h' =>
      have h2 := h'
      simp only [eqI, Bool.and_eq_true, decide_eq_true_eq] at h2
      obtain ⟨⟨⟨⟨h3, h4⟩, h5⟩, h6⟩, h7⟩ := h2
      subst h3
      cases tg <;> try cases h7
      have n2 := eq_nostar (env := X.env) (es := []) h6
      refine pi_zipG g h' (mgB g ok (by decide)) (sndA_cons (ha.all X Z EX g _ h5).1 (sndA_cons (hb.all X Z EX g _ h6).1 sndA_nil fun env => eq_nostar h6) fun env => eq_nostar h5)
    | [], _, h => simp [eqI] at h
    | [_], _, h => simp [eqI] at h
    | [_, _], _ :: _, h => simp [eqI] at h
    | _ :: _ :: _ :: _, _, h => simp [eqI] at h
theorem SA_nil : SndA W d [] := ⟨fun X Z EX g es h => by
  cases es with
  | nil => exact sndA_nil
  | cons e es => simp [eqEs] at h⟩
theorem SA_cons {m : ME} {ms : List ME} (ha : Snd W d m) (hr : SndA W d ms) : SndA W d (m :: ms) := ⟨fun X Z EX g es h => by
  cases es with
  | nil => simp [eqEs] at h
  | cons e es =>
    simp only [eqEs, Bool.and_eq_true] at h
    exact sndA_cons (ha.all X Z EX g _ h.1).1 (hr.all X Z EX g _ h.2) fun env => eq_nostar h.1⟩
theorem SO_none : SndO W d none := ⟨fun X Z EX g e h => by
  cases e with
  | none => exact sndO_none
  | some e => simp [eqO] at h, fun c h => nomatch h⟩
theorem SO_some {m : ME} (ha : Snd W d m) : SndO W d (some m) := ⟨fun X Z EX g e h => by
  cases e with
  | none => simp [eqO] at h
  | some e =>
    simp only [eqO] at h
    exact sndO_some (ha.all X Z EX g _ h).1, fun c h X Z g e q => by cases h; exact (ha.all X Z NoX g e q).2.1⟩
theorem S_mt {m : MT} {o : ME} {es : List ME} (ho : Snd W d o) (ha : ∀ x ∈ es, Snd W d x) : Snd W d (.mt m o es) := .of rfl fun X Z EX g e h => by
  cases e <;> try exact absurd (show false = true from h) (by decide)
  rename_i fn args kws cp
  cases fn <;> try exact absurd (show false = true from h) (by decide)
  rename_i o' n ap
  cases kws <;> try exact absurd (show false = true from h) (by decide)
  simp only [eqE, Bool.and_eq_true, decide_eq_true_eq] at h
  obtain ⟨⟨⟨⟨⟨h1, h2⟩, h3⟩, h4⟩, h5⟩, h6⟩ := h
  subst h1
  refine s3_of g ?_ rfl
  have po := (ho.all X Z EX g _ h4).1
  have one : mtArgs m = 1 → ∃ a ma, args = [a] ∧ es = [ma] ∧ eqE ma Z a = true ∧ PE X a (tE W d EX ma) := fun q => by
    rw [q] at h6
    match args, es, h6, h5 with
    | [a], [ma], _, h5 =>
      have h7 : eqE ma Z a = true := by simpa [eqEs] using h5
      exact ⟨a, ma, rfl, rfl, h7, ((ha ma List.mem_cons_self).all X Z EX g _ h7).1⟩
    | [a], [], _, h5 => simp [eqEs] at h5
    | [a], _ :: _ :: _, _, h5 => simp [eqEs] at h5
  have two : mtArgs m = 2 → ∃ a b ma mb, args = [a, b] ∧ es = [ma, mb] ∧ eqE ma Z a = true ∧ eqE mb Z b = true ∧ PE X a (tE W d EX ma) ∧ PE X b (tE W d EX mb) := fun q => by
    rw [q] at h6
    match args, es, h6, h5 with
    | [a, b], [ma, mb], _, h5 =>
      have h7 : eqE ma Z a = true ∧ eqE mb Z b = true := by simpa [eqEs] using h5
      exact ⟨a, b, ma, mb, rfl, rfl, h7.1, h7.2, ((ha ma List.mem_cons_self).all X Z EX g _ h7.1).1, ((ha mb (List.mem_cons_of_mem _ List.mem_cons_self)).all X Z EX g _ h7.2).1⟩
    | [a, b], [], _, h5 => simp [eqEs] at h5
    | [a, b], [_], _, h5 => simp [eqEs] at h5
    | [a, b], _ :: _ :: _ :: _, _, h5 => simp [eqEs] at h5
  cases m <;> try cases h2
  · obtain ⟨a, ma, rfl, rfl, q1, q2⟩ := one rfl
    exact snd_m1 g PySem.F.slot_list_append PySem.F.type_list_append m_append (fun _ _ => rfl) h4 q1 h3 po q2
  · obtain ⟨a, ma, rfl, rfl, q1, q2⟩ := one rfl
    exact snd_m1 g PySem.F.slot_list_extend PySem.F.type_list_extend m_extend (fun _ _ => rfl) h4 q1 h3 po q2
  · obtain ⟨a, b, ma, mb, rfl, rfl, q1, q2, q3, q4⟩ := two rfl
    exact snd_get g h4 q1 q2 h3 po q3 q4
  · obtain ⟨a, b, ma, mb, rfl, rfl, q1, q2, q3, q4⟩ := two rfl
    exact snd_setdefault g h4 q1 q2 h3 po q3 q4
  · have e0 : args = [] := List.eq_nil_of_length_eq_zero h6
    subst e0
    cases es with
    | cons _ _ => simp [eqEs] at h5
    | nil => exact snd_upper g h4 h3 po
theorem S_bi (ok : W.Ok) {b : BI} {es : List ME} (ha : SndA W d es) : Snd W d (.bi b es) := .of rfl fun X Z EX g e h => by
  cases e <;> try exact absurd (show false = true from h) (by decide)
  rename_i fn args kws p
  cases fn <;> try exact absurd (show false = true from h) (by decide)
  rename_i x p1
  refine s3_of g ?_ rfl
  have key : biDone b = true ∧ biName b = some x ∧ kws = [] ∧ glbB Z x = true ∧ eqEs es Z args = true ∧ args.length = biArgs b := by
    cases b <;> simp only [eqE] at h
    all_goals first
      | (split at h <;> first | (simp [biDone] at h; done) | (simp only [Bool.and_eq_true, decide_eq_true_eq] at h; obtain ⟨⟨⟨⟨h1, h2⟩, h3⟩, h4⟩, h5⟩ := h; exact ⟨h2, h1, rfl, h3, h4, h5⟩))
      | (simp [biDone] at h; done)
  obtain ⟨k1, k2, k3, k4, k5, k6⟩ := key
  subst k3
  cases args with
  | nil => cases b <;> cases k6
  | cons a as =>
    cases es with
    | nil => simp [eqEs] at k5
    | cons m ms =>
      have pa := ha.all X Z EX g _ k5
      cases b <;> try cases k1
      all_goals
        have hx := Option.some.inj k2
        subst hx
      · exact snd_biB g ok (bi_len g) (by decide) boot_len k4 k5 pa
      · exact snd_biB g ok (bi_all g) (by decide) boot_all k4 k5 pa
      · exact snd_biB g ok (bi_any g) (by decide) boot_any k4 k5 pa
      · exact snd_biB g ok (bi_sum g) (by decide) boot_sum k4 k5 pa
      · exact snd_biT g ok (bi_tuple g) (by decide) boot_tuple k4 k5 pa
      · exact snd_biT g ok (bi_list g) (by decide) boot_list k4 k5 pa
      · exact snd_biB g ok (bi_min2 g) (by decide) boot_min k4 k5 pa
      · exact snd_biB g ok (bi_max2 g) (by decide) boot_max k4 k5 pa
      · exact snd_biT g ok (bi_int g) (by decide) boot_int k4 k5 pa
end

section
variable {W : Wd} {d : Nat} (ok : W.Ok) (F : W.Fns d)
include ok F
mutual
theorem sndE : ∀ m : ME, Snd W d m
  | .var _ => S_var
  | .int _ => S_int
  | .str _ => S_str
  | .bl _ => S_bl
  | .non => S_non
  | .glob _ => S_glob ok
  | .tup es => S_tup (sndA es)
  | .lst _ es => S_lst (sndA es)
  | .dict _ _ => S_dict
  | .bin _ _ a b => S_bin (sndE a) (sndE b)
  | .neg a => S_neg (sndE a)
  | .not a => S_not (sndE a)
  | .and_ a b => S_and (sndE a) (sndE b)
  | .or_ a b => S_or (sndE a) (sndE b)
  | .cmp _ a b => S_cmp (sndE a) (sndE b)
  | .chain _ _ a b c => S_chain (sndE a) (sndE b) (sndE c)
  | .ife t a b => S_ife (sndE t) (sndE a) (sndE b)
  | .call _ es => S_call ok F (sndA es)
  | .bi _ es => S_bi ok (sndA es)
  | .isi _ a => S_isi ok (sndE a)
  | .mt _ o es => S_mt (sndE o) (sndM es)
  | .sub a i => S_sub (sndE a) (sndE i)
  | .slice a lo hi => S_slice (sndE a) (sndO lo) (sndO hi)
  | .rev a => S_rev (sndE a)
  | .comp _ _ _ it cond elt => S_comp (sndE it) (sndO cond) (sndE elt)
  | .rangeI es => S_rangeI ok (sndA es)
  | .enumI _ => S_enumI
  | .zipI a b => S_zipI ok (sndE a) (sndE b)
theorem sndA : ∀ ms : List ME, SndA W d ms
  | [] => SA_nil
  | m :: ms => SA_cons (sndE m) (sndA ms)
theorem sndM : ∀ ms : List ME, ∀ x ∈ ms, Snd W d x
  | [] => fun _ h => nomatch h
  | m :: ms => fun x h => (List.mem_cons.mp h).elim (fun e => e ▸ sndE m) (sndM ms x)
theorem sndO : ∀ o : Option ME, SndO W d o
  | none => SO_none
  | some m => SO_some (sndE m)
end
end
end Mi
/-! MiC17: statements. -/
namespace Mi
open PySem PySem.Spec PyProof.Rows L2

def FlowQ (W : Wd) (β : Be) (H : Hp) (D : Ends) : Flow × Env → Prop
  | (.next, env) => ∀ σ, EnvR W.K β H env σ → D.nx σ H
  | (.brk, env) => ∀ σ, EnvR W.K β H env σ → D.bk σ H
  | (.cont, env) => ∀ σ, EnvR W.K β H env σ → D.ct σ H
  | (.ret v, _) => ∀ x, Rep W.K β H v x → D.rt x H
def PostS (W : Wd) (EX : XK) (β : Be) (H : Hp) (r : Res (Flow × Env)) (D : Ends) : Prop :=
  match r with
  | .ok fe S => ∀ β' H', Ext β H β' H' → SR W.K β' H' S → FlowQ W β' H' D fe
  | .err c S => ∀ β' H', Ext β H β' H' → SR W.K β' H' S → EX (.ref (W.cls c)) none H'
  | .fail => False
def tS (W : Wd) (d : Nat) (EX : XK) (m : MS) : TS := fun D σ H => ∃ β env S, SR W.K β H S ∧ EnvR W.K β H env σ ∧ PostS W EX β H (exec (W.cfg d) m env S) D
def tSs (W : Wd) (d : Nat) (EX : XK) (ms : List MS) : TS := fun D σ H => ∃ β env S, SR W.K β H S ∧ EnvR W.K β H env σ ∧ PostS W EX β H (execs (W.cfg d) ms env S) D
section
variable {W : Wd} {EX : XK} {β β1 : Be} {H H1 : Hp}
theorem PostS.ext {r : Res (Flow × Env)} {D : Ends} (h : PostS W EX β H r D) (x : Ext β H β1 H1) : PostS W EX β1 H1 r D := by
  cases r with
  | ok v S => exact fun β2 H2 e s => h β2 H2 (x.trans e) s
  | err c S => exact fun β2 H2 e s => h β2 H2 (x.trans e) s
  | fail => exact h
theorem PostE.bndS {r : Res T} {f : T → Store → Res (Flow × Env)} {D : Ends} (h : PostS W EX β H (Mi.bnd r f) D) :
    PostE W EX β H r (fun x H1 => ∃ β1 S1 v, Ext β H β1 H1 ∧ SR W.K β1 H1 S1 ∧ Rep W.K β1 H1 v x ∧ PostS W EX β1 H1 (f v S1) D) := by
  cases r with
  | ok v S => exact fun β' H' x e s r => ⟨β', S, v, e, s, r, PostS.ext (show PostS W EX β H (f v S) D from h) e⟩
  | err c S => exact h
  | fail => exact h
theorem PostA.bndS {r : Res (List T)} {f : List T → Store → Res (Flow × Env)} {D : Ends} (h : PostS W EX β H (Mi.bnd r f) D) :
    PostA W EX β H r (fun x H1 => ∃ β1 S1 v, Ext β H β1 H1 ∧ SR W.K β1 H1 S1 ∧ Reps W.K β1 H1 v x ∧ PostS W EX β1 H1 (f v S1) D) := by
  cases r with
  | ok v S => exact fun β' H' x e s r => ⟨β', S, v, e, s, r, PostS.ext (show PostS W EX β H (f v S) D from h) e⟩
  | err c S => exact h
  | fail => exact h
theorem PostT.bndS {r : Res Bool} {f : Bool → Store → Res (Flow × Env)} {D : Ends} (h : PostS W EX β H (Mi.bnd r f) D) :
    PostT W EX β H r (fun x H1 => ∃ β1 S1, Ext β H β1 H1 ∧ SR W.K β1 H1 S1 ∧ PostS W EX β1 H1 (f x S1) D) := by
  cases r with
  | ok v S => exact fun β' H' e s => ⟨β', S, e, s, PostS.ext (show PostS W EX β H (f v S) D from h) e⟩
  | err c S => exact h
  | fail => exact h
theorem PostS.here {fe : Flow × Env} {S : Store} {D : Ends} (h : PostS W EX β H (.ok fe S) D) (s : SR W.K β H S) : FlowQ W β H D fe := h β H Ext.refl s
/-- a piece, then what comes behind -/
theorem PostS.bnd {r : Res (Flow × Env)} {f : Flow × Env → Store → Res (Flow × Env)} {D D' : Ends} (h : PostS W EX β H (Mi.bnd r f) D)
    (q : ∀ fe S β1 H1, Ext β H β1 H1 → SR W.K β1 H1 S → PostS W EX β1 H1 (f fe S) D → FlowQ W β1 H1 D' fe) : PostS W EX β H r D' := by
  cases r with
  | ok v S => exact fun β' H' e s => q v S β' H' e s (PostS.ext (show PostS W EX β H (f v S) D from h) e)
  | err c S => exact h
  | fail => exact h
end

theorem _root_.L2.PSs.imp {X : Cx} {e : List Stmt} {t t' : TS} (h : PSs X e t) (f : ∀ D σ H, t' D σ H → t D σ H) : PSs X e t' :=
  ⟨fun pins s σ H Q I q => h.run pins s σ H Q I (f Q σ H q)⟩
/-! ### what the assignments ask -/
theorem swapped_of {env : PySem.Env} {ts vs : List Expr} {k k2 : Nat} {p p2 : Pos} {r : Option (List Str)} (hb : env.scope.kind = .function) (h : swpO env.scope ts vs = some r) :
    swappedStores [.Tuple ts k p] (.Tuple vs k2 p2) env = pure r := by
  have hbk : env.blockKind = .function := by unfold Env.blockKind; rw [hb]; rfl
  unfold swpO at h
  unfold swappedStores
  show (if (!(ts.length == 2 || ts.length == 3) || vs.length != ts.length || env.blockKind != .function) = true then pure none else _) = _
  rw [hbk]
  by_cases h1 : (!(ts.length == 2 || ts.length == 3) || vs.length != ts.length) = true
  · rw [if_pos h1] at h
    rw [if_pos (by rw [h1]; rfl)]
    cases h
    rfl
  · rw [if_neg h1] at h
    rw [if_neg (by
      intro q
      rw [Bool.or_eq_true] at q
      rcases q with q | q
      · exact h1 q
      · exact absurd q (by decide))]
    split at h
    · rename_i h2
      cases h
      exact if_pos h2
    · rename_i h2
      refine (if_neg h2).trans ?_
      simp only at h
      split at h
      · rename_i h3
        cases h
        exact if_pos h3
      · rename_i h3
        refine (if_neg h3).trans ?_
        split at h
        · rename_i h4
          cases h
          exact if_pos h4
        · rename_i h4
          refine (if_neg h4).trans ?_
          split at h
          · cases h
          · rename_i h5
            cases h
            exact if_neg h5
theorem swaps_of {env : PySem.Env} {v tg : Expr} {l : Nat} (hb : env.scope.kind = .function) (h : ∀ a b c d, v ≠ .SetComp a b c d) (h' : ∀ a b c d e, v ≠ .DictComp a b c d e) : swapsWith v (some tg) l env = pure (swB env.scope v tg) := by
  have hbk : env.blockKind = .function := by unfold Env.blockKind; rw [hb]; rfl
  cases v with
  | ListComp e gs s p =>
    cases tg with
    | Name t py =>
      unfold swapsWith
      show (pure _ : Sem Bool) = _
      rw [hbk]
      rfl
    | _ => rfl
  | SetComp a b c d => exact absurd rfl (h a b c d)
  | DictComp a b c d e => exact absurd rfl (h' a b c d e)
  | _ => rfl

/-! ### one statement -/
theorem FlowQ_next {W : Wd} {β : Be} {H : Hp} {D : Ends} {env : Env} {σ : L2.St} (h : FlowQ W β H D (.next, env)) (e : EnvR W.K β H env σ) : D.nx σ H := h σ e
theorem eqEs_len {Z : Sc} : ∀ {ms : List ME} {es : List Expr}, eqEs ms Z es = true → ms.length = es.length
  | [], [], _ => rfl
  | [], _ :: _, h => by simp [eqEs] at h
  | _ :: _, [], h => by simp [eqEs] at h
  | m :: ms, e :: es, h => by
    simp only [eqEs, Bool.and_eq_true] at h
    rw [List.length_cons, List.length_cons, eqEs_len h.2]
theorem setSlots2 {env : Env} {i j : Nat} {a b : T} : setSlots env [i, j] [a, b] = (env.set i (some a)).set j (some b) := rfl
section
variable {W : Wd} {d : Nat} {EX : XK} {X : Cx} {Z : Sc} (g : Good W d X Z EX) (ok : W.Ok) (F : W.Fns d) (hk : Z.sc.kind = .function)
include g
theorem kind_of (hk : Z.sc.kind = .function) : X.env.scope.kind = .function := by rw [g.sc]; exact hk
theorem noSD {m : ME} {e : Expr} (h : eqE m Z e = true) : (∀ a b c d, e ≠ .SetComp a b c d) ∧ (∀ a b c d f, e ≠ .DictComp a b c d f) := by
  constructor
  · rintro a b c d rfl
    cases m <;> exact absurd (show false = true from h) (by decide)
  · rintro a b c d f rfl
    cases m <;> exact absurd (show false = true from h) (by decide)
theorem asg_imp {gg : MG} {m : ME} {D : Ends} {σ : L2.St} {H : Hp} (h : tS W d EX (.asg gg m) D σ H) : tAsg (tE W d EX m) (tG W.K gg) D σ H := by
  obtain ⟨β, env, S, hS, hE, hp⟩ := h
  rw [exec] at hp
  refine ⟨β, env, S, hS, hE, (PostE.bndS hp).mono fun x H1 ⟨β1, S1, v, x1, s1, r1, hp1⟩ => ?_⟩
  cases hg : gg.asg v env with
  | none => rw [hg] at hp1; exact hp1.elim
  | some env' =>
    rw [hg] at hp1
    exact ⟨β1, env, v, env', hE.ext x1, r1, hg, fun σ' hE' _ => hp1.here s1 σ' hE'⟩
theorem asg1_imp {i : Nat} {t : TE} {m : ME} (ht : ∀ σ H Q, tE W d EX m σ H Q → t σ H Q) {D : Ends} {σ : L2.St} {H : Hp} (h : tS W d EX (.asg (.name i) m) D σ H) : tAsg t (gName i) D σ H := by
  obtain ⟨β, env, S, hS, hE, hp⟩ := h
  rw [exec] at hp
  refine ht _ _ _ ⟨β, env, S, hS, hE, (PostE.bndS hp).mono fun x H1 ⟨β1, S1, v, x1, s1, r1, hp1⟩ => ?_⟩
  exact hp1.here s1 _ ((hE.ext x1).set r1 i)
theorem st_asg (ok : W.Ok) (F : W.Fns d) (hk : Z.sc.kind = .function) {gg : MG} {m : ME} {st : Stmt} (h : eqS (.asg gg m) Z st = true) : PS X st (tS W d EX (.asg gg m)) := by
  have hkx := kind_of g hk
  cases st <;> try exact absurd (show false = true from h) (by decide)
  rename_i tgs v pos
  match tgs, h with
  | [], h => exact absurd (show false = true from h) (by decide)
  | _ :: _ :: _, h => exact absurd (show false = true from h) (by decide)
  | [tg], h =>
    have h : (eqG Z gg tg && eqE m Z v && swpT Z.sc tg v) = true := h
    simp only [Bool.and_eq_true] at h
    obtain ⟨⟨h1, h2⟩, h3⟩ := h
    obtain ⟨n1, n2⟩ := noSD g h2
    have hE := (sndE ok F m).all X Z EX g v h2
    cases hsw : swB X.env.scope v tg with
    | true =>
      -- a comprehension, right into the name
      cases v <;> try exact absurd (show false = true from hsw) (by decide)
      rename_i elt gens scope cpos
      cases tg <;> try exact absurd (show false = true from hsw) (by decide)
      rename_i y py
      cases gg <;> try exact absurd (show false = true from h1) (by decide)
      rename_i i
      cases m <;> try exact absurd (show false = true from h2) (by decide)
      rename_i hp own cg it cond el
      obtain ⟨tg, it', ifs, e1, p1, p2, p3, p4, p5, p6, p7⟩ := comp_lc g h2 (fun tg it' h => (sndE ok F it).it X Z EX g tg it' h) (fun c hcc X' Z' g' c' h => (sndO ok F cond).tst c hcc X' Z' g' c' h) (fun X' Z' g' e' h => ((sndE ok F el).all X' Z' NoX g' e' h).1)
      subst e1
      simp only [eqG, Bool.and_eq_true] at h1
      have hi : X.N[i]? = some y := by rw [g.N]; exact of_decide_eq_true h1.1
      have hsw' := hsw
      simp only [swB, Bool.and_eq_true, beq_iff_eq] at hsw'
      have hyl : X.env.scope.names.lookup y = some .local := hsw'.1.1
      exact (ps_setLc g.calm g.nd hi hyl (by rw [swaps_of hkx n1 n2, hsw]) p1 p2 p3 p4 p5 p6).imp fun D σ H q => asg1_imp g p7 q
    | false =>
      have hs : swapsWith v (some tg) pos.line X.env = pure false := by rw [swaps_of hkx n1 n2, hsw]
      have hsw2 : swappedStores [tg] v X.env = pure none := by
        by_cases ht : ∃ ts k p vs k2 p2, tg = .Tuple ts k p ∧ v = .Tuple vs k2 p2
        · obtain ⟨ts, k, p, vs, k2, p2, e1, e2⟩ := ht
          subst e1 e2
          have h3 : decide (swpO Z.sc ts vs = some none) = true := h3
          rw [← g.sc] at h3
          exact swapped_of hkx (of_decide_eq_true h3)
        · cases tg <;> try rfl
          · exact absurd (show false = true from (by cases gg <;> exact h1)) (by decide)
          · cases v <;> first | rfl | exact absurd ⟨_, _, _, _, _, _, rfl, rfl⟩ ht
      have h1' : (assignEach [tg] X.env).map (·.2) = [assign tg X.env] := by
        rw [eqG_star h1]
        rfl
      cases tg with
      | Name y py =>
        cases gg with
        | tup _ => exact absurd (show false = true from h1) (by decide)
        | name i =>
        simp only [eqG, Bool.and_eq_true] at h1
        have hi : X.N[i]? = some y := by rw [g.N]; exact of_decide_eq_true h1.1
        obtain ⟨l1, l2⟩ := loc_of g h1.2
        exact (ps_set g.nd hi l1 hE.1 hs l2).imp fun D σ H q => asg1_imp g (fun _ _ _ q => q) q
      | _ => exact (ps_asg hE.1 (sndG g gg _ h1) hs hsw2 h1').imp fun D σ H q => asg_imp g q
theorem par_names {is : List Nat} {ts : List Expr} (h : parN Z is ts = true) : is.length = ts.length ∧ is.Nodup ∧ ∀ (k i : Nat) (e : Expr), is[k]? = some i → ts[k]? = some e → ∃ x p, e = .Name x p ∧ X.N[i]? = some x ∧ X.env.scope.names.lookup x = some .local := by
  induction is generalizing ts with
  | nil =>
    cases ts with
    | nil => exact ⟨rfl, .nil, fun k i e h => by simp at h⟩
    | cons t ts => cases h
  | cons i is ih =>
    cases ts with
    | nil => cases h
    | cons t ts =>
      cases t <;> try exact absurd (show false = true from h) (by decide)
      rename_i x p
      simp only [parN, Bool.and_eq_true, decide_eq_true_eq] at h
      obtain ⟨⟨⟨h1, h2⟩, h3⟩, h4⟩ := h
      obtain ⟨q1, q2, q3⟩ := ih h4
      refine ⟨by rw [List.length_cons, List.length_cons, q1], List.nodup_cons.mpr ⟨by simpa using h3, q2⟩, fun k j e a b => ?_⟩
      cases k with
      | zero =>
        cases a
        cases b
        exact ⟨x, p, rfl, by rw [g.N]; exact of_decide_eq_true h1, by rw [g.sc]; exact h2⟩
      | succ k => exact q3 k j e a b
theorem st_par (ok : W.Ok) (F : W.Fns d) (hk : Z.sc.kind = .function) {is : List Nat} {ms : List ME} {st : Stmt} (h : eqS (.par is ms) Z st = true) : PS X st (tS W d EX (.par is ms)) := by
  have hkx := kind_of g hk
  cases st <;> try exact absurd (show false = true from h) (by decide)
  rename_i tgs v pos
  match tgs, h with
  | [], h => exact absurd (show false = true from h) (by decide)
  | tg :: _ :: _, h => cases tg <;> exact absurd (show false = true from h) (by decide)
  | [tg], h =>
    obtain ⟨ts, k, p, rfl⟩ : ∃ ts k p, tg = .Tuple ts k p := by
      cases tg <;> first | exact ⟨_, _, _, rfl⟩ | exact absurd (show false = true from h) (by decide)
    obtain ⟨vs, k2, p2, rfl⟩ : ∃ vs k2 p2, v = .Tuple vs k2 p2 := by
      cases v <;> first | exact ⟨_, _, _, rfl⟩ | exact absurd (show false = true from h) (by decide)
    simp only [eqS, Bool.and_eq_true, decide_eq_true_eq] at h
    obtain ⟨⟨⟨⟨h1, h2⟩, h3⟩, h4⟩, h5⟩ := h
    obtain ⟨q1, q2, q3⟩ := par_names g (is := is) (ts := ts) h1
    rw [← g.sc] at h3
    have hsw := swapped_of (k := k) (k2 := k2) (p := p) (p2 := p2) hkx h3
    have pa := (sndA ok F ms).all X Z EX g vs h2
    rcases h5 with h5 | h5
    · match ts, vs, is, h5, h4, q1, q2, q3, hsw, pa with
      | [t1, t2], [a, b], [i, j], _, _, _, q2, q3, hsw, pa =>
        obtain ⟨x, px, e1, n1, l1⟩ := q3 0 i t1 rfl rfl
        obtain ⟨y, py, e2, n2, l2⟩ := q3 1 j t2 rfl rfl
        subst e1 e2
        have hij : i ≠ j := by
          intro e
          subst e
          simp at q2
        refine (ps_par g.calm g.nd n1 n2 hij l1 l2 pa hsw).imp fun D σ H ⟨β, env, S, hS, hE, hp⟩ => ?_
        rw [exec] at hp
        refine ⟨β, env, S, hS, hE, ?_⟩
        cases hr : evs (W.cfg d) ms env S with
        | fail => rw [hr] at hp; exact hp.elim
        | err c S' => rw [hr] at hp; exact hp
        | ok us S1 =>
          rw [hr, bnd_ok] at hp
          intro β1 H1 xs x1 s1 r1
          have hl : us.length = 2 := (evs_length hr).trans (eqEs_len h2)
          match us, hl, r1, hp with
          | [u1, u2], _, ⟨v1, _, e1, c1, v2, _, e2, c2, e3⟩, hp =>
            subst e1 e2
            rw [show _ = [] from e3]
            exact ⟨v1, v2, rfl, FlowQ_next (PostS.here (PostS.ext hp x1) s1) (((hE.ext x1).set c1 i).set c2 j)⟩
      | [_, _], [], _, _, h4, _, _, _, _, _ => cases h4
      | [_, _], [_], _, _, h4, _, _, _, _, _ => cases h4
      | [_, _], _ :: _ :: _ :: _, _, _, h4, _, _, _, _, _ => cases h4
      | [_, _], _, [], _, _, q1, _, _, _, _ => cases q1
      | [_, _], _, [_], _, _, q1, _, _, _, _ => cases q1
      | [_, _], _, _ :: _ :: _ :: _, _, _, q1, _, _, _, _ => cases q1
    · match ts, vs, is, h5, h4, q1, q2, q3, hsw, pa with
      | [t1, t2, t3], [a, b, c], [i, j, l], _, _, _, q2, q3, hsw, pa =>
        obtain ⟨x, px, e1, n1, l1⟩ := q3 0 i t1 rfl rfl
        obtain ⟨y, py, e2, n2, l2⟩ := q3 1 j t2 rfl rfl
        obtain ⟨z, pz, e3, n3, l3⟩ := q3 2 l t3 rfl rfl
        subst e1 e2 e3
        have hij : i ≠ j ∧ i ≠ l ∧ j ≠ l := by
          simp only [List.nodup_cons, List.mem_cons, List.not_mem_nil, or_false, not_or] at q2
          exact ⟨q2.1.1, q2.1.2, q2.2.1⟩
        refine (ps_par3 g.calm g.nd n1 n2 n3 hij.1 hij.2.1 hij.2.2 l1 l2 l3 pa hsw).imp fun D σ H ⟨β, env, S, hS, hE, hp⟩ => ?_
        rw [exec] at hp
        refine ⟨β, env, S, hS, hE, ?_⟩
        cases hr : evs (W.cfg d) ms env S with
        | fail => rw [hr] at hp; exact hp.elim
        | err c S' => rw [hr] at hp; exact hp
        | ok us S1 =>
          rw [hr, bnd_ok] at hp
          intro β1 H1 xs x1 s1 r1
          have hl : us.length = 3 := (evs_length hr).trans (eqEs_len h2)
          match us, hl, r1, hp with
          | [u1, u2, u3], _, ⟨v1, _, e1, c1, v2, _, e2, c2, v3, _, e3, c3, e4⟩, hp =>
            subst e1 e2 e3
            rw [show _ = [] from e4]
            exact ⟨v1, v2, v3, rfl, FlowQ_next (PostS.here (PostS.ext hp x1) s1) ((((hE.ext x1).set c1 i).set c2 j).set c3 l)⟩
      | [_, _, _], [], _, _, h4, _, _, _, _, _ => cases h4
      | [_, _, _], [_], _, _, h4, _, _, _, _, _ => cases h4
      | [_, _, _], [_, _], _, _, h4, _, _, _, _, _ => cases h4
      | [_, _, _], _ :: _ :: _ :: _ :: _, _, _, h4, _, _, _, _, _ => cases h4
      | [_, _, _], _, [], _, _, q1, _, _, _, _ => cases q1
      | [_, _, _], _, [_], _, _, q1, _, _, _, _ => cases q1
      | [_, _, _], _, [_, _], _, _, q1, _, _, _, _ => cases q1
      | [_, _, _], _, _ :: _ :: _ :: _ :: _, _, _, q1, _, _, _, _ => cases q1
end
end Mi
/-! MiC18: loops; all statements. -/
namespace Mi
open PySem PySem.Spec PyProof.Rows L2

section
variable {W : Wd} {d : Nat} {EX : XK} {X : Cx} {Z : Sc} (g : Good W d X Z EX)
/-- a loop's turn -/
def forStp (c : Cfg) (gg : MG) (body : List MS) : T → Env → Store → Res (Flow × Env) := fun x env S => (match gg.asg x env with | some env => execs c body env S | none => .fail)
theorem forLoop_cons {stp : T → Env → Store → Res (Flow × Env)} {ck : Store → Bool} {x : T} {r : List T} {env : Env} {S : Store} {β : Be} {H : Hp} {D : Ends} (h : PostS W EX β H (forLoop stp ck (x :: r) env S) D) :
    ck S = true ∧ PostS W EX β H (bnd (stp x env S) fun fe S => (match fe.1 with
    | .next | .cont => forLoop stp ck r fe.2 S
    | .brk => .ok (.next, fe.2) S
    | .ret v => .ok (.ret v, fe.2) S)) D := by
  unfold forLoop at h
  cases hc : ck S with
  | false => rw [hc] at h; exact h.elim
  | true =>
    rw [hc, if_pos rfl] at h
    exact ⟨rfl, h⟩
theorem forLoop_nil {stp : T → Env → Store → Res (Flow × Env)} {ck : Store → Bool} {env : Env} {S : Store} {β : Be} {H : Hp} {D : Ends} (h : PostS W EX β H (forLoop stp ck [] env S) D) :
    ck S = true ∧ PostS W EX β H (.ok (.next, env) S) D := by
  unfold forLoop at h
  cases hc : ck S with
  | false => rw [hc] at h; exact h.elim
  | true =>
    rw [hc, if_pos rfl] at h
    exact ⟨rfl, h⟩
include g
theorem st_for {gg : MG} {it : ME} {body : List MS} {tg it' : Expr} {body' : List Stmt} {pos : Pos} (po : PassesOwn (model X.prog X.w) X.A X.env X.xe) (hi : Snd W d it) (h1 : eqG Z gg tg = true) (h2 : (eqI it Z tg it' || eqE it Z it') = true)
    (hb : PSs X body' (tSs W d EX body)) : PS X (.For tg it' body' [] pos) (tS W d EX (.for_ gg it body)) := by
  refine (ps_for po g.calm (hi.it X Z EX g tg it' h2) (sndG g gg tg h1) hb (fun x => fsi_of h2 _ x)).imp fun D σ H ⟨β, env, S, hS, hE, hp⟩ => ?_
  have hp' : PostS W EX β H (bnd (ev (W.cfg d) it env S) fun v S => (match itemsOf S v with
    | some (xs, r) => forLoop (forStp (W.cfg d) gg body) (still r xs) xs env S
    | none => .fail)) D := by
    have e : exec (W.cfg d) (.for_ gg it body) env S = bnd (ev (W.cfg d) it env S) fun v S => (match itemsOf S v with
      | some (xs, r) => forLoop (forStp (W.cfg d) gg body) (still r xs) xs env S
      | none => .fail) := by rw [exec]; rfl
    rw [← e]
    exact hp
  refine ⟨β, env, S, hS, hE, ?_⟩
  cases hr : ev (W.cfg d) it env S with
  | fail => rw [hr] at hp'; exact hp'.elim
  | err c S' => rw [hr] at hp'; exact hp'
  | ok v S1 =>
    rw [hr, bnd_ok] at hp'
    show (match itemsOf S1 v with
      | some (xs, q) => ∀ β' H' J, Ext β H β' H' → SR W.K β' H' S1 → Src W.K J xs (still q xs) β' H' → _
      | none => False)
    cases hit : itemsOf S1 v with
    | none => rw [hit] at hp'; exact hp'
    | some p =>
      obtain ⟨xs, q⟩ := p
      rw [hit] at hp'
      have hp' : PostS W EX β H (forLoop (forStp (W.cfg d) gg body) (still q xs) xs env S1) D := hp'
      intro β1 H1 J ex sr src
      generalize still q xs = ck at hp' src
      refine ⟨fun i m σ H => m = xs.length - i ∧ i ≤ xs.length ∧ ∃ βi envi Si, Ext β1 H1 βi H ∧ SR W.K βi H Si ∧ EnvR W.K βi H envi σ ∧ PostS W EX βi H (forLoop (forStp (W.cfg d) gg body) ck (xs.drop i) envi Si) D,
        ⟨xs.length, by simp, Nat.zero_le _, β1, env, S1, Ext.refl, sr, hE.ext ex, by simpa using hp'.ext ex⟩, ?_⟩
      rintro i m σ2 H2 ⟨hm, hle, βi, envi, Si, xi, si, ei, pi⟩
      by_cases hlt : i < xs.length
      · refine .inr ?_
        have hx : xs[i]? = some xs[i] := List.getElem?_eq_getElem hlt
        rw [List.drop_eq_getElem_cons hlt] at pi
        obtain ⟨hck, pi⟩ := forLoop_cons pi
        refine ⟨src.go _ _ _ i xi.gr si hck hlt, fun σ' H' => xs.length - (i + 1) = xs.length - (i + 1) ∧ i + 1 ≤ xs.length ∧ ∃ βi envi Si, Ext β1 H1 βi H' ∧ SR W.K βi H' Si ∧ EnvR W.K βi H' envi σ' ∧ PostS W EX βi H' (forLoop (forStp (W.cfg d) gg body) ck (xs.drop (i + 1)) envi Si) D,
          fun σ' H' q => ⟨_, by rw [hm]; omega, q⟩, fun x H' y => ?_⟩
        obtain ⟨ex', sr', rx⟩ := src.yld _ _ _ i _ x H' xi.gr si hck hx y
        have pi' := pi.ext ex'
        cases hga : gg.asg xs[i] envi with
        | none =>
          unfold forStp at pi'
          rw [hga] at pi'
          exact pi'.elim
        | some env' =>
          refine ⟨βi, envi, xs[i], env', ei.ext ex', rx, hga, fun σ3 hE3 _ => ?_⟩
          refine ⟨βi, env', Si, sr', hE3, ?_⟩
          have e0 : forStp (W.cfg d) gg body xs[i] envi Si = execs (W.cfg d) body env' Si := by unfold forStp; rw [hga]
          rw [e0] at pi'
          refine PostS.bnd pi' fun fe S4 β4 H4 x4 s4 p4 => ?_
          obtain ⟨fl, env4⟩ := fe
          cases fl with
          | next => exact fun σ4 e4 => ⟨rfl, hlt, β4, env4, S4, (xi.trans ex').trans x4, s4, e4, p4⟩
          | cont => exact fun σ4 e4 => ⟨rfl, hlt, β4, env4, S4, (xi.trans ex').trans x4, s4, e4, p4⟩
          | brk => exact fun σ4 e4 => FlowQ_next (PostS.here p4 s4) e4
          | ret v => exact fun w rw1 => PostS.here (fe := (.ret v, env4)) p4 s4 w rw1
      · have hie : i = xs.length := Nat.le_antisymm hle (Nat.le_of_not_lt hlt)
        subst hie
        rw [List.drop_length] at pi
        obtain ⟨hck, pi⟩ := forLoop_nil pi
        exact .inl ⟨src.stop _ _ _ xi.gr si hck, FlowQ_next (PostS.here pi si) ei⟩
theorem st_while {c : ME} {body : List MS} {c' : Expr} {body' : List Stmt} {pos : Pos} (po : PassesOwn (model X.prog X.w) X.A X.env X.xe) (hc : PT X c' (tT W d EX c)) (hb : PSs X body' (tSs W d EX body)) : PS X (.While c' body' [] pos) (tS W d EX (.while_ c body)) := by
  refine (ps_while po hc hb).imp fun D σ H ⟨β, env, S, hS, hE, hp⟩ => ?_
  rw [exec] at hp
  refine ⟨fun m σ H => ∃ β env S, SR W.K β H S ∧ EnvR W.K β H env σ ∧ PostS W EX β H (whileLoop (fun env S => evT (W.cfg d) c env S) (fun env S => execs (W.cfg d) body env S) m env S) D, ⟨_, β, env, S, hS, hE, hp⟩, ?_⟩
  rintro m σ2 H2 ⟨β2, env2, S2, s2, e2, p2⟩
  cases m with
  | zero => exact p2.elim
  | succ n =>
    unfold whileLoop at p2
    refine ⟨β2, env2, S2, s2, e2, (PostT.bndS p2).mono fun b H3 ⟨β3, S3, x3, s3, p3⟩ => ?_⟩
    cases b with
    | false =>
      rw [if_neg (by decide)] at p3 ⊢
      exact FlowQ_next (PostS.here p3 s3) (e2.ext x3)
    | true =>
      rw [if_pos rfl] at p3 ⊢
      refine ⟨fun σ' H' => ∃ β env S, SR W.K β H' S ∧ EnvR W.K β H' env σ' ∧ PostS W EX β H' (whileLoop (fun env S => evT (W.cfg d) c env S) (fun env S => execs (W.cfg d) body env S) n env S) D, fun σ' H' q => ⟨n, Nat.lt_succ_self n, q⟩, β3, env2, S3, s3, e2.ext x3, ?_⟩
      refine PostS.bnd p3 fun fe S4 β4 H4 x4 s4 p4 => ?_
      obtain ⟨fl, env4⟩ := fe
      cases fl with
      | next => exact fun σ4 e4 => ⟨β4, env4, S4, s4, e4, p4⟩
      | cont => exact fun σ4 e4 => ⟨β4, env4, S4, s4, e4, p4⟩
      | brk => exact fun σ4 e4 => FlowQ_next (PostS.here p4 s4) e4
      | ret v => exact fun w rw1 => PostS.here (fe := (.ret v, env4)) p4 s4 w rw1
theorem st_if {c : ME} {a b : List MS} {c' : Expr} {a' b' : List Stmt} {pos : Pos} (hc : PT X c' (tT W d EX c)) (ha : PSs X a' (tSs W d EX a)) (hb : PSs X b' (tSs W d EX b)) : PS X (.If c' a' b' pos) (tS W d EX (.if_ c a b)) :=
  (ps_if hc ha hb).imp fun D σ H ⟨β, env, S, hS, hE, hp⟩ => by
    rw [exec] at hp
    refine ⟨β, env, S, hS, hE, (PostT.bndS hp).mono fun k H1 ⟨β1, S1, x1, s1, p1⟩ => ?_⟩
    cases k with
    | true => exact ⟨β1, env, S1, s1, hE.ext x1, p1⟩
    | false => exact ⟨β1, env, S1, s1, hE.ext x1, p1⟩
theorem st_expr {m : ME} {v : Expr} {pos : Pos} (he : PE X v (tE W d EX m)) (hc : isComp v = false) : PS X (.Expr v pos) (tS W d EX (.expr m)) :=
  (ps_expr he (by cases v <;> first | rfl | cases hc)).imp fun D σ H ⟨β, env, S, hS, hE, hp⟩ => by
    rw [exec] at hp
    exact ⟨β, env, S, hS, hE, (PostE.bndS hp).mono fun x H1 ⟨β1, S1, v, x1, s1, r1, p1⟩ => FlowQ_next (PostS.here p1 s1) (hE.ext x1)⟩
theorem st_ret {m : ME} {v : Expr} {pos : Pos} (he : PE X v (tE W d EX m)) : PS X (.Return (some v) pos) (tS W d EX (.ret m)) :=
  (ps_ret he).imp fun D σ H ⟨β, env, S, hS, hE, hp⟩ => by
    rw [exec] at hp
    exact ⟨β, env, S, hS, hE, (PostE.bndS hp).mono fun x H1 ⟨β1, S1, v, x1, s1, r1, p1⟩ => PostS.here p1 s1 x r1⟩
theorem st_nil : PSs X [] (tSs W d EX []) := pss_nil.imp fun D σ H ⟨β, env, S, hS, hE, hp⟩ => by
  rw [execs] at hp
  exact FlowQ_next (PostS.here hp hS) hE
theorem st_cons {m : MS} {ms : List MS} {s : Stmt} {ss : List Stmt} (h : PS X s (tS W d EX m)) (hr : PSs X ss (tSs W d EX ms)) : PSs X (s :: ss) (tSs W d EX (m :: ms)) :=
  (pss_cons h hr).imp fun D σ H ⟨β, env, S, hS, hE, hp⟩ => by
    rw [execs] at hp
    refine ⟨β, env, S, hS, hE, PostS.bnd hp fun fe S4 β4 H4 x4 s4 p4 => ?_⟩
    obtain ⟨fl, env4⟩ := fe
    cases fl with
    | next => exact fun σ4 e4 => ⟨β4, env4, S4, s4, e4, p4⟩
    | cont => exact fun σ4 e4 => PostS.here (show PostS W EX β4 H4 (.ok (.cont, env4) S4) D from p4) s4 σ4 e4
    | brk => exact fun σ4 e4 => PostS.here (show PostS W EX β4 H4 (.ok (.brk, env4) S4) D from p4) s4 σ4 e4
    | ret v => exact fun x r => PostS.here (show PostS W EX β4 H4 (.ok (.ret v, env4) S4) D from p4) s4 x r
end
section
variable {W : Wd} {d : Nat} (ok : W.Ok) (F : W.Fns d) {EX : XK} {X : Cx} {Z : Sc} (g : Good W d X Z EX) (hk : Z.sc.kind = .function) (po : PassesOwn (model X.prog X.w) X.A X.env X.xe)
include ok F g hk po
mutual
theorem sndS : ∀ (m : MS) (st : Stmt), eqS m Z st = true → PS X st (tS W d EX m)
  | .asg gg e, st, h => st_asg g ok F hk h
  | .par is es, st, h => st_par g ok F hk h
  | .expr e, st, h => by
    cases st <;> try exact absurd (show false = true from h) (by decide)
    simp only [eqS, Bool.and_eq_true] at h
    exact st_expr g ((sndE ok F e).all X Z EX g _ h.1).1 (by simpa using h.2)
  | .ret e, st, h => by
    cases st <;> try exact absurd (show false = true from h) (by decide)
    rename_i v p
    cases v with
    | none => exact absurd (show false = true from h) (by decide)
    | some v => exact st_ret g ((sndE ok F e).all X Z EX g v h).1
  | .retN, st, h => by
    cases st <;> try exact absurd (show false = true from h) (by decide)
    rename_i v p
    cases v with
    | some v => exact absurd (show false = true from h) (by decide)
    | none =>
      exact ps_retN.imp fun D σ H ⟨β, env, S, hS, hE, hp⟩ => by
        rw [exec] at hp
        exact PostS.here hp hS .non rfl
  | .if_ c a b, st, h => by
    cases st <;> try exact absurd (show false = true from h) (by decide)
    rename_i c' a' b' p
    simp only [eqS, Bool.and_eq_true] at h
    exact st_if g ((sndE ok F c).all X Z EX g _ h.1.1).2.1 (sndSs a a' h.1.2) (sndSs b b' h.2)
  | .for_ gg it body, st, h => by
    cases st <;> try exact absurd (show false = true from h) (by decide)
    rename_i tg it' body' o p
    cases o <;> try exact absurd (show false = true from h) (by decide)
    simp only [eqS, Bool.and_eq_true] at h
    exact st_for g po (sndE ok F it) h.1.1 h.1.2 (sndSs body body' h.2)
  | .while_ c body, st, h => by
    cases st <;> try exact absurd (show false = true from h) (by decide)
    rename_i c' body' o p
    cases o <;> try exact absurd (show false = true from h) (by decide)
    simp only [eqS, Bool.and_eq_true] at h
    exact st_while g po ((sndE ok F c).all X Z EX g _ h.1).2.1 (sndSs body body' h.2)
  | .brk, st, h => by
    cases st <;> try exact absurd (show false = true from h) (by decide)
    exact ps_break.imp fun D σ H ⟨β, env, S, hS, hE, hp⟩ => by
      rw [exec] at hp
      exact PostS.here (fe := (.brk, env)) hp hS σ hE
  | .cont, st, h => by
    cases st <;> try exact absurd (show false = true from h) (by decide)
    exact ps_continue.imp fun D σ H ⟨β, env, S, hS, hE, hp⟩ => by
      rw [exec] at hp
      exact PostS.here (fe := (.cont, env)) hp hS σ hE
  | .pass, st, h => by
    cases st <;> try exact absurd (show false = true from h) (by decide)
    exact ps_pass.imp fun D σ H ⟨β, env, S, hS, hE, hp⟩ => by
      rw [exec] at hp
      exact FlowQ_next (PostS.here hp hS) hE
  | .raise_ _, st, h => by cases st <;> exact absurd (show false = true from h) (by decide)
  | .setIdx _ _ _, st, h => by cases st <;> exact absurd (show false = true from h) (by decide)
  | .tryWord _, st, h => by cases st <;> exact absurd (show false = true from h) (by decide)
theorem sndSs : ∀ (ms : List MS) (ss : List Stmt), eqSs ms Z ss = true → PSs X ss (tSs W d EX ms)
  | [], ss, h => by
    cases ss with
    | nil => exact st_nil g
    | cons s ss => simp [eqSs] at h
  | m :: ms, ss, h => by
    cases ss with
    | nil => simp [eqSs] at h
    | cons s ss =>
      simp only [eqSs, Bool.and_eq_true] at h
      exact st_cons g (sndS m s h.1) (sndSs ms ss h.2)
end
end
end Mi
/-! MiC19: calls. -/
namespace Mi
open PySem PySem.Spec PyProof.Rows L2

section
variable {K : PySem.W.Frag} {β β' : Be} {H H' : Hp}
theorem notin_back (x : Ext β H β' H') {a : Addr} (h : a ∉ β') : a ∉ β := by
  obtain ⟨ys, e⟩ := x.pre
  refine Be.not (fun m => h (.inl ?_)) (fun m => h (.inr (by rw [x.same]; exact m)))
  rw [e]
  exact List.mem_append_left _ m
theorem get_back (x : Ext β H β' H') {n : Nat} {a : Addr} (hn : n < β.l.length) (h : β'.l[n]? = some a) : β.l[n]? = some a := by
  obtain ⟨ys, e⟩ := x.pre
  rw [e, List.getElem?_append_left hn] at h
  exact h
mutual
theorem Rep.back (x : Ext β H β' H') : ∀ (t : T) (v0 v : V), Rep K β H t v0 → Rep K β' H' t v → Rep K β H' t v
  | .non, _, _, _, h => h
  | .bl _, _, _, _, h => h
  | .int _, _, _, _, h => h
  | .str _, _, _, _, h => h
  | .tup ts, _, v, ⟨_, _, vs0, _, _, _, r0⟩, ⟨hl, a, vs, e, h, n, r⟩ => ⟨hl, a, vs, e, h, notin_back x n, Reps.back x ts vs0 vs r0 r⟩
  | .lst ts, _, v, ⟨_, _, vs0, _, _, _, r0⟩, ⟨hl, a, vs, e, h, n, r⟩ => ⟨hl, a, vs, e, h, notin_back x n, Reps.back x ts vs0 vs r0 r⟩
  | .scr ns, _, v, _, ⟨hl, a, e, h⟩ => by
    refine ⟨hl, a, e, ?_⟩
    rcases h with ⟨h, n⟩ | h
    · exact .inl ⟨h, notin_back x n⟩
    · exact .inr h
  | .ref n, _, v, ⟨a0, _, h0⟩, ⟨a, e, h⟩ => ⟨a, e, get_back x (List.getElem?_eq_some_iff.mp h0).1 h⟩
theorem Reps.back (x : Ext β H β' H') : ∀ (ts : List T) (vs0 vs : List V), Reps K β H ts vs0 → Reps K β' H' ts vs → Reps K β H' ts vs
  | [], _, _, _, h => h
  | t :: ts, _, _, ⟨v0, r0, _, h0, hs0⟩, ⟨v, r, e, h, hs⟩ => ⟨v, r, e, Rep.back x t v0 v h0 h, Reps.back x ts r0 r hs0 hs⟩
end
mutual
theorem Rep.backD (x : Ext β H β' H') : ∀ (t : T) (v : V), t.data = true → Rep K β' H' t v → Rep K β H' t v
  | .non, _, _, h => h
  | .bl _, _, _, h => h
  | .int _, _, _, h => h
  | .str _, _, _, h => h
  | .tup ts, v, d, ⟨hl, a, vs, e, h, n, r⟩ => ⟨hl, a, vs, e, h, notin_back x n, Reps.backD x ts vs (by simpa [T.data] using d) r⟩
  | .lst ts, v, d, ⟨hl, a, vs, e, h, n, r⟩ => ⟨hl, a, vs, e, h, notin_back x n, Reps.backD x ts vs (by simpa [T.data] using d) r⟩
  | .scr ns, v, d, _ => by simp [T.data] at d
  | .ref n, v, d, _ => by simp [T.data] at d
theorem Reps.backD (x : Ext β H β' H') : ∀ (ts : List T) (vs : List V), T.datas ts = true → Reps K β' H' ts vs → Reps K β H' ts vs
  | [], _, _, h => h
  | t :: ts, _, d, ⟨v, r, e, h, hs⟩ => by
    simp only [T.datas, Bool.and_eq_true] at d
    exact ⟨v, r, e, Rep.backD x t v d.1 h, Reps.backD x ts r d.2 hs⟩
end
theorem KReps.back (x : Ext β H β' H') : ∀ {ps : List (T × T)} {ws0 ws : List (Key × V)}, KReps K β H ps ws0 → KReps K β' H' ps ws → KReps K β H' ps ws
  | [], _, _, _, h => h
  | p :: r, _, _, ⟨k0, v0, ws0', e0, hk0, a0, b0, hs0⟩, ⟨k, v, ws', e, hk, h1, h2, hs⟩ => ⟨k, v, ws', e, hk, Rep.back x _ _ _ a0 h1, Rep.back x _ _ _ b0 h2, KReps.back x hs0 hs⟩
theorem SR.back {S S1 : Store} (s : SR K β H S) (s' : SR K β' H' S1) (x : Ext β H β' H') (ht : S1.take S.length = S) : SR K β H' S := by
  refine ⟨s.len, s.nd, fun n o a e1 e2 => ?_, fun a ha => ⟨(s.res a ha).1, let ⟨u, hu⟩ := (s.res a ha).2; ⟨u, (x.keep a u hu (s.res a ha).1).1⟩⟩⟩
  have hn := (List.getElem?_eq_some_iff.mp e1).1
  have e3 : S1[n]? = some o := by
    rw [← ht, List.getElem?_take, if_pos hn] at e1
    exact e1
  have q := s'.obj n o a e3 (x.get e2)
  have q0 := s.obj n o a e1 e2
  cases o with
  | lst ts =>
    obtain ⟨hl, vs, hv, r⟩ := q
    obtain ⟨_, vs0, _, r0⟩ := q0
    exact ⟨hl, vs, hv, Reps.back x _ _ _ r0 r⟩
  | dct kvs =>
    obtain ⟨hl, ws, hv, r⟩ := q
    obtain ⟨_, ws0, _, r0⟩ := q0
    exact ⟨hl, ws, hv, KReps.back x r0 r⟩
theorem Ext.back (x : Ext β H β' H') : Ext β H β H' := ⟨⟨[], by simp⟩, rfl, fun a o h n => ⟨(x.keep a o h n).1, n⟩⟩
/-- a callee's value, its own lists made plain -/
theorem freeze_ok {S S1 : Store} {t t' : T} {v : V} (s : SR K β H S) (s' : SR K β' H' S1) (x : Ext β H β' H') (hf : freezeV S.length S1 t = some t') (r : Rep K β' H' t v) : Rep K β H' t' v := by
  cases t with
  | ref n =>
    unfold freezeV at hf
    simp only at hf
    obtain ⟨a, e, ha⟩ := r
    by_cases hn : n < S.length
    · rw [if_pos hn] at hf
      cases hf
      exact ⟨a, e, get_back x (by rw [s.len]; exact hn) ha⟩
    · rw [if_neg hn] at hf
      cases hS : S1[n]? with
      | none => rw [hS] at hf; cases hf
      | some o =>
        rw [hS] at hf
        cases o with
        | dct kvs => cases hf
        | lst xs =>
          simp only at hf
          by_cases hd : T.datas xs = true
          · rw [if_pos hd] at hf
            cases hf
            obtain ⟨hl, vs, hv, rs⟩ := s'.obj n _ a hS ha
            refine ⟨hl, a, vs, e, hv, ?_, Reps.backD x _ _ hd rs⟩
            have hm : a ∈ β'.l := List.mem_of_getElem? ha
            refine Be.not (fun m => ?_) fun m => ?_
            · obtain ⟨k, hk⟩ := List.mem_iff_getElem?.mp m
              have hk' := x.get hk
              have hlt : k < S.length := by rw [← s.len]; exact (List.getElem?_eq_some_iff.mp hk).1
              obtain ⟨h1, g1⟩ := List.getElem?_eq_some_iff.mp ha
              obtain ⟨h2, g2⟩ := List.getElem?_eq_some_iff.mp hk'
              have := (List.getElem_inj s'.nd).mp (g1.trans g2.symm)
              omega
            · exact (s'.res a (by rw [x.same]; exact m)).1 hm
          · rw [if_neg hd] at hf; cases hf
  | scr ns => unfold freezeV at hf; simp [T.data] at hf
  | _ =>
    unfold freezeV at hf
    simp only at hf
    split at hf
    · rename_i hd
      cases hf
      exact Rep.backD x _ _ hd r
    · cases hf
end
section
variable {W : Wd} {EX : XK} {β : Be} {H : Hp}
theorem ret_ok {S S1 : Store} {v : T} {Q : VK} (s : SR W.K β H S) (h : PostE W EX β H (retFix S v S1) Q) : PostE W EX β H (.ok v S1) Q := by
  intro β' H' x e s' r
  unfold retFix at h
  split at h
  · exact h β' H' x e s' r
  · split at h
    · rename_i ht
      split at h
      · rename_i v' hf
        exact h β H' x e.back (s.back s' e ht) (freeze_ok s s' e hf r)
      · exact h β' H' x e s' r
    · exact h β' H' x e s' r
theorem err_ok {S S1 : Store} {c : Nat} {Q : VK} (s : SR W.K β H S) (h : PostE W EX β H (errFix S c S1) Q) : PostE W EX β H (.err c S1) Q := by
  intro β' H' e s'
  unfold errFix at h
  split at h
  · rename_i ht
    exact h β H' e.back (s.back s' e ht)
  · exact h β' H' e s'
end

theorem start_env {K : PySem.W.Frag} {β : Be} {H : Hp} {args : List T} {vs : List V} {N : List Str} {n : Nat} (r : Reps K β H args vs) (h : N.length = n) : EnvR K β H (startEnv n args) (L2.start N vs) := by
  subst h
  have hl := r.length
  unfold startEnv L2.start
  refine ⟨by simp [hl], fun i t e => ?_⟩
  by_cases hi : i < args.length
  · rw [List.getElem?_append_left (by simpa using hi), List.getElem?_map] at e
    cases ht : args[i]? with
    | none => rw [ht] at e; cases e
    | some u =>
      rw [ht] at e
      cases e
      obtain ⟨v, h1, h2⟩ := r.get ht
      refine ⟨v, ?_, h2⟩
      rw [List.getElem?_append_left (by rw [List.length_map, ← hl]; exact hi), List.getElem?_map, h1]
      rfl
  · rw [List.getElem?_append_right (by simpa using hi)] at e
    rw [List.getElem?_replicate] at e
    split at e <;> cases e

/-- what is known of a def of the text -/
structure FnFact (W : Wd) (f : Nat) (fd : FD) : Prop where
  ex : ∃ (name qual : Str) (params : Arguments) (body : List Stmt) (scope : Scope) (dV kV doc pm cdv ct oc : Value) (an od : Option Addr) (osl : Array (Option Value)) (N : List Str),
    W.K.lookup (W.fa f) = some ⟨oc, od, .func (PySem.W.fnOf name qual params body scope dV kV doc pm an cdv ct), osl⟩ ∧ W.fd f = PySem.W.fnOf name qual params body scope dV kV doc pm an cdv ct ∧ PySem.W.codeIn W.K cdv qual = true ∧
    FnScope N (W.ps f) scope ∧ N.length = fd.slots ∧ (W.ps f).length = fd.params ∧ eqSs fd.body ⟨N, scope, fun _ => true, W.nm⟩ body = true

theorem fns_zero (W : Wd) : W.Fns 0 := fun f fd hf =>
  ⟨fun vs H Q E ⟨h, _⟩ => h, fun A outer s H args us vs Q E hr he hb hv ⟨_, β, S, args', _, _, hp⟩ => (show False from hp).elim⟩
theorem fns_succ {W : Wd} (ok : W.Ok) (ff : ∀ f fd, W.G f = some fd → FnFact W f fd) {d : Nat} (F : W.Fns d) : W.Fns (d + 1) := fun f fd hf => by
  obtain ⟨name, qual, params, body, scope, dV, kV, doc, pm, cdv, ct, oc, an, od, osl, N, lk, e1, hcd, S, hN, hps, hq⟩ := (ff f fd hf).ex
  rw [e1]
  refine fn_of (k := lvl d) lk hcd S (fun vs H Q E ⟨h, _⟩ => h) fun A outer s H vs Q E hr ⟨hl, β, S0, args, hS, hR, hp⟩ => ?_
  let X : Cx := cxOf (L2.CX W.P W.w) W.P W.w W.K W.mg W.base N qual scope (W.fa f) cdv A outer s H E
  have tk : Takes X (fun cls d _ H => E cls d H) := takes_of rfl rfl rfl rfl
  have g : Good W d X ⟨N, scope, fun _ => true, W.nm⟩ E := {
    prog := rfl, w := rfl, K := rfl, mg := rfl, base := rfl, calm := rfl, room := hr, N := rfl, nd := S.nd, sc := rfl, fn := rfl, nm := rfl
    pass := passes_call tk (fun _ _ _ _ h => h) }
  have po : PassesOwn (model X.prog X.w) X.A X.env X.xe := passes_of rfl
  refine ⟨tSs W d E fd.body, sndSs ok F g S.kind po fd.body body hq, β, startEnv fd.slots args, S0, hS, start_env hR hN, ?_⟩
  unfold callN at hp
  rw [hf] at hp
  simp only at hp
  by_cases ha : args.length = fd.params
  · rw [if_pos ha] at hp
    change PostS W E β H (execs ⟨callN W.G W.gv W.fuel d, W.gv, W.fuel⟩ fd.body (startEnv fd.slots args) S0) _
    cases hr : execs ⟨callN W.G W.gv W.fuel d, W.gv, W.fuel⟩ fd.body (startEnv fd.slots args) S0 with
    | fail => rw [hr] at hp; exact hp.elim
    | err c S1 => rw [hr] at hp; exact err_ok hS hp
    | ok fe S1 =>
      rw [hr] at hp
      obtain ⟨fl, env⟩ := fe
      cases fl with
      | next =>
        have q := ret_ok hS hp
        exact fun β' H' e s σ _ => q β' H' .non e s rfl
      | ret v =>
        have q := ret_ok hS hp
        exact fun β' H' e s x r => q β' H' x e s r
      | brk => exact hp.elim
      | cont => exact hp.elim
  · rw [if_neg ha] at hp
    exact hp.elim
theorem fns_all {W : Wd} (ok : W.Ok) (ff : ∀ f fd, W.G f = some fd → FnFact W f fd) : ∀ d, W.Fns d
  | 0 => fns_zero W
  | d + 1 => fns_succ ok ff (fns_all ok ff d)
end Mi
/-! MiC20: from the text's top to a law. -/
namespace Mi
open PySem PySem.Spec PyProof.Rows L2

/-- a def of the text: its number, name, place in the top; its parameters, slots, body -/
structure Dn where
  id : Nat
  name : Str
  pl : Nat
  ps : List Str
  N : List Str
  body : List MS
def Dn.fd (x : Dn) : FD := ⟨x.ps.length, x.N.length, x.body⟩
def dnAt (ds : List Dn) (i : Nat) : Option Dn := ds.find? fun x => x.id == i
def tabOf (ds : List Dn) : Tab := fun i => (dnAt ds i).map Dn.fd
def gvOf (gs : List (Str × T)) : Nat → Option T := fun i => (gs[i]?).map (·.2)
def nmOf (ds : List Dn) (gs : List (Str × T)) : Nm where
  f := fun i => ((dnAt ds i).map (·.name)).getD Str.empty
  has := fun i => (dnAt ds i).isSome
  g := fun i => ((gs[i]?).map (·.1)).getD Str.empty
  x := fun _ => Str.empty
def Dn.st (P : Program) (x : Dn) : Stmt := P.main.body.getD x.pl (.Pass ⟨0, 0, 0, 0⟩)
def Dn.def_ (P : Program) (x : Dn) : He.DefD := ⟨(x.name, none), x.name, x.name, defArgs (x.st P), defBody (x.st P), defScope (x.st P), [], []⟩
def gFa : Str × T → He.Fa
  | (n, .int i) => .int n i
  | (n, .str s) => .str n (toStr s)
  | (n, _) => .glo n
def gOk : Str × T → Bool
  | (_, .int _) => true
  | (_, .str s) => decide (s.length ≤ 1000)
  | _ => false
def faOf (ds : List Dn) (gs : List (Str × T)) : List He.Fa := ds.map (fun x => .glo x.name) ++ (bltNames.map .free ++ gs.map gFa)
def fnL (P : Program) (ds : List Dn) : List He.DefD := ds.map (Dn.def_ P)
structure DnOk (P : Program) (nm : Nm) (x : Dn) : Prop where
  sc : FnScope x.N x.ps (defScope (x.st P))
  eq : eqSs x.body ⟨x.N, defScope (x.st P), fun _ => true, nm⟩ (defBody (x.st P)) = true
  bind : ∀ (kV doc pm : Value) (an : Option Addr) (cdv ct : Value) (us : List Value), us.length = x.ps.length →
    bindArgs (PySem.W.fnOf x.name x.name (defArgs (x.st P)) (defBody (x.st P)) (defScope (x.st P)) .none kV doc pm an cdv ct) ⟨us, []⟩ = pure (x.ps.zip us)
def scB (N ps : List Str) (sc : Scope) : Bool :=
  (match sc.kind with | .function => true | _ => false) && !sc.isCoroutine && !sc.isGenerator && decide N.Nodup && decide (N.take ps.length = ps) && (ps.all fun x => decide (sc.names.lookup x = some .local) || decide (sc.names.lookup x = some .cell)) &&
    (sc.names.all fun y => match y.2 with | .free => false | _ => true)
theorem sc_of {N ps : List Str} {sc : Scope} (h : scB N ps sc = true) : FnScope N ps sc := by
  unfold scB at h
  simp only [Bool.and_eq_true, List.all_eq_true, decide_eq_true_eq, Bool.or_eq_true, Bool.not_eq_true'] at h
  obtain ⟨⟨⟨⟨⟨⟨h1, h2⟩, h3⟩, h4⟩, h5⟩, h6⟩, h7⟩ := h
  refine ⟨?_, h2, h3, h4, h5, h6, fun y hy e => ?_⟩
  · split at h1
    · assumption
    · cases h1
  · have := h7 y hy
    rw [e] at this
    cases this
theorem dnAt_mem {ds : List Dn} {i : Nat} {x : Dn} (h : dnAt ds i = some x) : x ∈ ds ∧ x.id = i := by
  unfold dnAt at h
  exact ⟨List.mem_of_find?_eq_some h, by simpa using List.find?_some h⟩

section
variable (P : Program) (w : World) (K : PySem.W.Frag) (mg : Str → Option Value) (base : Heap) (ds : List Dn) (gs : List (Str × T)) (fuel : Nat)
def fdAt (fd0 : FuncData) (a : Addr) : FuncData := match K.lookup a with
  | some ⟨_, _, .func fd, _⟩ => fd
  | _ => fd0
def mkW (fd0 : FuncData) : Wd where
  P := P
  w := w
  K := K
  mg := mg
  base := base
  nm := nmOf ds gs
  G := tabOf ds
  gv := gvOf gs
  fuel := fuel
  cls := fun _ => 0
  fa := fun i => He.fAd K (((dnAt ds i).map (·.name)).getD Str.empty, none)
  fd := fun i => fdAt K fd0 (He.fAd K (((dnAt ds i).map (·.name)).getD Str.empty, none))
  ps := fun i => ((dnAt ds i).map (·.ps)).getD []
end
section
variable {P : Program} {w : World} {K : PySem.W.Frag} {h : Heap} {mg : Str → Option Value} {base : Heap} {ds : List Dn} {gs : List (Str × T)} {fuel : Nat}
theorem def_at (c : He.SaysD (faOf ds gs) (fnL P ds) K) {x : Dn} (hx : x ∈ ds) : ∃ fd, FunD K x.name x.name (defArgs (x.st P)) (defBody (x.st P)) (defScope (x.st P)) [] [] (He.fAd K (x.name, none)) fd := by
  obtain ⟨i, hi⟩ := List.mem_iff_getElem?.mp hx
  exact c.def_ i (d := x.def_ P) (by unfold fnL; rw [List.getElem?_map, hi]; rfl)
theorem fact_at {fn : List He.DefD} (c : He.SaysD (faOf ds gs) fn K) {f : He.Fa} (hf : f ∈ faOf ds gs) : f.ok K = true := by
  obtain ⟨i, hi⟩ := List.mem_iff_getElem?.mp hf
  exact c.fact i hi
theorem fdAt_eq {fd0 fd : FuncData} {x : Dn} (F : FunD K x.name x.name (defArgs (x.st P)) (defBody (x.st P)) (defScope (x.st P)) [] [] (He.fAd K (x.name, none)) fd) : fdAt K fd0 (He.fAd K (x.name, none)) = fd := by
  obtain ⟨oc, od, dV, kV, doc, pm, an, cdv, ct, osl, e, lk, _⟩ := F.ex
  unfold fdAt
  rw [lk]
theorem ok_mi (X : K.In h) (G0 : h.Ns mainGlobals mg) (c : He.SaysD (faOf ds gs) (fnL P ds) K) (hd : ∀ x ∈ ds, DnOk P (nmOf ds gs) x) (hg : gs.all gOk = true) (fd0 : FuncData) : (mkW P w K mg base ds gs fuel fd0).Ok where
  has := fun f hf => by
    show ∃ fd, (dnAt ds f).map Dn.fd = some fd
    have hf : (dnAt ds f).isSome = true := hf
    cases q : dnAt ds f with
    | none => rw [q] at hf; cases hf
    | some x => exact ⟨_, rfl⟩
  fn := fun f fd hf => by
    have hf : (dnAt ds f).map Dn.fd = some fd := hf
    cases q : dnAt ds f with
    | none => rw [q] at hf; cases hf
    | some x =>
      rw [q] at hf
      cases hf
      obtain ⟨hx, _⟩ := dnAt_mem q
      obtain ⟨fd, F⟩ := def_at c hx
      have hf2 : (He.Fa.glo x.name).ok K = true := fact_at c (List.mem_append_left _ (List.mem_map.mpr ⟨x, hx, rfl⟩))
      have e1 : (mkW P w K mg base ds gs fuel fd0).fa f = He.fAd K (x.name, none) := by show He.fAd K (((dnAt ds f).map (·.name)).getD Str.empty, none) = _; rw [q]; rfl
      have e2 : (mkW P w K mg base ds gs fuel fd0).fd f = fd := by show fdAt K fd0 (He.fAd K (((dnAt ds f).map (·.name)).getD Str.empty, none)) = _; rw [q]; exact fdAt_eq F
      have e3 : (mkW P w K mg base ds gs fuel fd0).ps f = x.ps := by show ((dnAt ds f).map (·.ps)).getD [] = _; rw [q]; rfl
      have e4 : (mkW P w K mg base ds gs fuel fd0).nm.f f = x.name := by show ((dnAt ds f).map (·.name)).getD Str.empty = _; rw [q]; rfl
      rw [e1, e2, e3, e4]
      exact ⟨He.glo_ok X G0 hf2, F.kp, F.bindsN (hd x hx).bind, rfl⟩
  blt := fun x hx => He.free_ok X G0 (fact_at c (List.mem_append_right _ (List.mem_append_left _ (List.mem_map.mpr ⟨x, hx, rfl⟩))))
  gl := fun i t ht => by
    have ht : (gs[i]?).map (·.2) = some t := ht
    show ∃ u v, mg (((gs[i]?).map (·.1)).getD Str.empty) = some u ∧ _
    cases q : gs[i]? with
    | none => rw [q] at ht; cases ht
    | some p =>
      rw [q] at ht
      obtain ⟨n, t'⟩ := p
      cases ht
      have hm : (n, t') ∈ gs := List.mem_of_getElem? q
      have ho := List.all_eq_true.mp hg _ hm
      have hf : (gFa (n, t')).ok K = true := fact_at c (List.mem_append_right _ (List.mem_append_right _ (List.mem_map.mpr ⟨_, hm, rfl⟩)))
      cases t' with
      | int j =>
        obtain ⟨t, e⟩ := He.int_ok X G0 hf
        exact ⟨_, .int j, e, ⟨t, rfl⟩, fun _ _ => rfl⟩
      | str s =>
        obtain ⟨t, e⟩ := He.str_ok X G0 hf
        have hl : s.length ≤ 1000 := of_decide_eq_true ho
        exact ⟨_, .str (toStr s), e, ⟨t, rfl⟩, fun _ _ => ⟨rfl, Nat.le_trans hl (show 1000 ≤ line by decide)⟩⟩
      | _ => cases ho
theorem ff_mi (c : He.SaysD (faOf ds gs) (fnL P ds) K) (hd : ∀ x ∈ ds, DnOk P (nmOf ds gs) x) (fd0 : FuncData) : ∀ f fd, (mkW P w K mg base ds gs fuel fd0).G f = some fd → FnFact (mkW P w K mg base ds gs fuel fd0) f fd := fun f fd hf => by
  have hf : (dnAt ds f).map Dn.fd = some fd := hf
  cases q : dnAt ds f with
  | none => rw [q] at hf; cases hf
  | some x =>
    rw [q] at hf
    cases hf
    obtain ⟨hx, _⟩ := dnAt_mem q
    obtain ⟨fd, F⟩ := def_at c hx
    have e1 : (mkW P w K mg base ds gs fuel fd0).fa f = He.fAd K (x.name, none) := by show He.fAd K (((dnAt ds f).map (·.name)).getD Str.empty, none) = _; rw [q]; rfl
    have e2 : (mkW P w K mg base ds gs fuel fd0).fd f = fd := by show fdAt K fd0 (He.fAd K (((dnAt ds f).map (·.name)).getD Str.empty, none)) = _; rw [q]; exact fdAt_eq F
    have e3 : (mkW P w K mg base ds gs fuel fd0).ps f = x.ps := by show ((dnAt ds f).map (·.ps)).getD [] = _; rw [q]; rfl
    obtain ⟨oc, od, dV, kV, doc, pm, an, cdv, ct, osl, e, lk, hcd, _⟩ := F.ex
    refine ⟨x.name, x.name, defArgs (x.st P), defBody (x.st P), defScope (x.st P), dV, kV, doc, pm, cdv, ct, oc, an, od, osl, x.N, ?_⟩
    rw [e1, e2, e3]
    rw [e] at lk ⊢
    exact ⟨lk, rfl, hcd, (hd x hx).sc, rfl, rfl, (hd x hx).eq⟩
end

/-- the law's promise -/
def spLaw (K : PySem.W.Frag) : Sp := fun vs H Q _ => ∃ (a : Addr) (ns : List Int), ns.length ≤ 63 ∧ vs = [.ref a] ∧ SqL K H a (ns.map V.int) ∧ ∀ H', Q (.bl true) H'
theorem facts_mi {P : Program} {w : World} {K : PySem.W.Frag} {h : Heap} {mg : Str → Option Value} {f : Addr} {ds : List Dn} {gs : List (Str × T)} {fuel d : Nat} {x : Str} {lw : Dn}
    (hd : ∀ x ∈ ds, DnOk P (nmOf ds gs) x) (hg : gs.all gOk = true) (hl : dnAt ds lw.id = some lw) (hps : lw.ps = [x])
    (law : ∀ ns : List Int, ns.length ≤ 63 → callN (tabOf ds) (gvOf gs) fuel d lw.id [.scr ns] [] = .ok (.bl true) [])
    (X : K.In h) (G : h.Ns mainGlobals mg) (hfa : mg lw.name = some (.ref f)) (c : He.SaysD (faOf ds gs) (fnL P ds) K) :
    ∃ fd : FuncData, (∀ (s : Shared) (v : Value), BindsTo s fd ⟨[v], []⟩ [(x, v)]) ∧ ∀ base : Heap, K.In base → base.Ns mainGlobals mg → FnOk P w K mg base (L2.CX P w) (lvl d) f fd [x] (spLaw K) := by
  obtain ⟨hm, _⟩ := dnAt_mem hl
  obtain ⟨fd, F⟩ := def_at c hm
  have hf2 : (He.Fa.glo lw.name).ok K = true := fact_at c (List.mem_append_left _ (List.mem_map.mpr ⟨lw, hm, rfl⟩))
  have ef : f = He.fAd K (lw.name, none) := by
    have e := hfa.symm.trans (He.glo_ok X G hf2)
    cases e
    rfl
  refine ⟨fd, fun s v => ?_, fun base kb nb => ?_⟩
  · have b := F.bindsA (hd lw hm).bind s [v] (by rw [hps]; rfl)
    rw [hps] at b
    exact b
  · have ok := ok_mi (w := w) (base := base) (fuel := fuel) X G c hd hg fd
    have fo := fns_all ok (ff_mi (w := w) (mg := mg) (base := base) (fuel := fuel) c hd fd) d lw.id lw.fd (by show (dnAt ds lw.id).map Dn.fd = _; rw [hl]; rfl)
    have e1 : (mkW P w K mg base ds gs fuel fd).fa lw.id = f := by rw [ef]; show He.fAd K (((dnAt ds lw.id).map (·.name)).getD Str.empty, none) = _; rw [hl]; rfl
    have e2 : (mkW P w K mg base ds gs fuel fd).fd lw.id = fd := by show fdAt K fd (He.fAd K (((dnAt ds lw.id).map (·.name)).getD Str.empty, none)) = _; rw [hl]; exact fdAt_eq F
    have e3 : (mkW P w K mg base ds gs fuel fd).ps lw.id = [x] := by show ((dnAt ds lw.id).map (·.ps)).getD [] = _; rw [hl]; exact hps
    rw [e1, e2, e3] at fo
    refine fo.imp fun vs H Q E ⟨a, ns, hn, e, hS, hq⟩ => ?_
    subst e
    refine ⟨by rw [e3]; rfl, ⟨[], []⟩, [], [.scr ns], ⟨rfl, .nil, fun n o a e => by simp at e, fun a ha => nomatch ha⟩, ⟨.ref a, [], rfl, ⟨Nat.le_trans hn (show 63 ≤ line by decide), a, rfl, ?_⟩, rfl⟩, ?_⟩
    · rcases hS with hS | hS
      · exact .inl ⟨hS, fun m => m.elim (fun m => nomatch m) (fun m => nomatch m)⟩
      · exact .inr hS
    · show PostE _ E _ H (callN (tabOf ds) (gvOf gs) fuel d lw.id [.scr ns] []) Q
      rw [law ns hn]
      intro β' H' x _ _ r
      rw [show x = .bl true from r]
      exact hq H'
theorem walk_mi {l : PySem.W.OpenLaw} {n k : Nat} {q : Program} {loose : List Str} {XP : (Str → Option Value) → Heap → Prop} {YP : World → Heap → Prop} {d : DefRec} {x : Str}
    (hn : l.most = some n) (hn2 : n ≤ 63) (hdf : d.params.defaults = []) (hr : Room k callerA)
    (F : ∀ (w : World) (mg : Str → Option Value) (fa : Addr) (h : Heap), YP w h → h.Ns mainGlobals mg → mg d.name = some (.ref fa) →
      ∃ (K : PySem.W.Frag) (fd : FuncData), K.In h ∧ (∀ (s : Shared) (u : Value), BindsTo s fd ⟨[u], []⟩ [(x, u)]) ∧
        ∀ base : Heap, K.In base → base.Ns mainGlobals mg → FnOk l.prog w K mg base (L2.CX l.prog w) k fa fd [x] (spLaw K)) :
    PySem.W.WalkO q loose XP YP l.row.toRowW d [] (fun f vs => PySem.call f vs) := by
  refine Att.attach_call hn hdf fun w s₀ s₁ mg mb fa o pm cd doc a vs ns G Y ho hd hcd hmg hobj hints hlen hg => ?_
  obtain ⟨K, fd, KX, hb, hF⟩ := F w mg fa _ Y G.T.g hmg
  exact law_call KX G.T.g G.T.b G.T.builtins G.T.nolimit hg hobj hints (Nat.le_trans hlen (Nat.le_trans hn2 (by decide))) hr hF hb (fun H _ hS => ⟨a, ns, Nat.le_trans hlen hn2, rfl, hS, fun _ => rfl⟩) fun H e s' ⟨_, _, _, _, _, _, _, _, _, _, _, _, z⟩ => z
end Mi
/-! MiP: plain laws of the evaluator. -/
namespace Mi

theorem call_ret {G : Tab} {gv : Nat → Option T} {fuel d f : Nat} {fd : FD} {args : List T} {S : Store} {v : T} {env : Env} (h : G f = some fd) (hl : args.length = fd.params)
    (e : execs ⟨callN G gv fuel d, gv, fuel⟩ fd.body (startEnv fd.slots args) S = .ok (.ret v, env) S) : callN G gv fuel (d + 1) f args S = .ok v S := by
  rw [callN, h]
  simp only [hl, if_true, e]
  simp [retFix]
/-- a call whose own lists are gone behind it -/
theorem call_fix {G : Tab} {gv : Nat → Option T} {fuel d f : Nat} {fd : FD} {args : List T} {S S1 : Store} {v v' : T} {env : Env} (h : G f = some fd) (hl : args.length = fd.params)
    (e : execs ⟨callN G gv fuel d, gv, fuel⟩ fd.body (startEnv fd.slots args) S = .ok (.ret v, env) S1) (ht : S1.take S.length = S) (hf : freezeV S.length S1 v = some v') (hs : S1.length = S.length → v = v') : callN G gv fuel (d + 1) f args S = .ok v' S := by
  rw [callN, h]
  simp only [hl, if_true, e]
  unfold retFix
  by_cases q : S1.length = S.length
  · rw [if_pos q, hs q]
    have : S1 = S := by rw [← ht, ← q, List.take_length]
    rw [this]
  · rw [if_neg q, if_pos ht, hf]
theorem compLoop_pure {stp : T → Store → Res (Option T)} {ck : Store → Bool} {S : Store} {f : T → Option T} (hc : ck S = true) : ∀ {xs : List T}, (∀ x ∈ xs, stp x S = .ok (f x) S) → compLoop stp ck xs S = .ok (xs.filterMap f) S
  | [], _ => by
    unfold compLoop
    rw [if_pos hc] <;> rfl
  | x :: r, h => by
    unfold compLoop
    rw [if_pos hc, h x List.mem_cons_self]
    simp only [bnd]
    rw [compLoop_pure hc fun y hy => h y (List.mem_cons_of_mem _ hy)]
    cases hf : f x with
    | none => simp [hf]
    | some v => simp [hf]
theorem comp_pure {c : Cfg} {heap : Bool} {own : List Nat} {g : MG} {it : ME} {cond : Option ME} {elt : ME} {env : Env} {S : Store} {v : T} {xs : List T} {r : Option Nat} (f : T → Option T) (hi : ev c it env S = .ok v S) (hx : itemsOf S v = some (xs, r))
    (hr : still r xs S = true) (hs : ∀ x ∈ xs, compStp c own g cond elt env x S = .ok (f x) S) : ev c (.comp heap own g it cond elt) env S = newList heap (xs.filterMap f) S := by
  rw [ev_comp, hi, bnd_ok, hx]
  simp only
  rw [compLoop_pure hr hs, bnd_ok]
theorem forLoop_inv {body : T → Env → Store → Res (Flow × Env)} {ck : Store → Bool} (P : Env → Store → Prop) (hck : ∀ env S, P env S → ck S = true) :
    ∀ {xs : List T} {env : Env} {S : Store}, (∀ x ∈ xs, ∀ env S, P env S → ∃ env' S', body x env S = .ok (.next, env') S' ∧ P env' S') → P env S → ∃ env' S', forLoop body ck xs env S = .ok (.next, env') S' ∧ P env' S'
  | [], env, S, _, p => by
    unfold forLoop
    rw [if_pos (hck _ _ p)]
    exact ⟨env, S, rfl, p⟩
  | x :: r, env, S, h, p => by
    unfold forLoop
    rw [if_pos (hck _ _ p)]
    obtain ⟨env', S', e, p'⟩ := h x List.mem_cons_self env S p
    rw [e, bnd_ok]
    exact forLoop_inv P hck (fun y hy => h y (List.mem_cons_of_mem _ hy)) p'
theorem forLoop_ix {body : T → Env → Store → Res (Flow × Env)} {ck : Store → Bool} (P : Nat → Env → Store → Prop) (hck : ∀ i env S, P i env S → ck S = true) :
    ∀ {xs : List T} {k : Nat} {env : Env} {S : Store}, (∀ (i : Nat) (x : T), xs[i]? = some x → ∀ env S, P (k + i) env S → ∃ env' S', body x env S = .ok (.next, env') S' ∧ P (k + i + 1) env' S') → P k env S →
      ∃ env' S', forLoop body ck xs env S = .ok (.next, env') S' ∧ P (k + xs.length) env' S'
  | [], k, env, S, _, p => by
    unfold forLoop
    rw [if_pos (hck _ _ _ p)]
    exact ⟨env, S, rfl, p⟩
  | x :: r, k, env, S, h, p => by
    unfold forLoop
    rw [if_pos (hck _ _ _ p)]
    obtain ⟨env', S', e, p'⟩ := h 0 x rfl env S p
    rw [e, bnd_ok]
    obtain ⟨env2, S2, e2, p2⟩ := forLoop_ix P hck (k := k + 1) (fun i y hy env S q => by
      have hy' : (x :: r)[i + 1]? = some y := hy
      have e1 : k + 1 + i = k + (i + 1) := by omega
      rw [e1] at q ⊢
      exact h (i + 1) y hy' env S q) p'
    refine ⟨env2, S2, e2, ?_⟩
    have e3 : k + (x :: r).length = k + 1 + r.length := by rw [List.length_cons]; omega
    rw [e3]
    exact p2
theorem codes_le {s t : List Char} : ltS s t = decide (codes s < codes t) := rfl
theorem asBls_map {α : Type} (f : α → Bool) : ∀ xs : List α, asBls (xs.map fun x => .bl (f x)) = some (xs.map f)
  | [] => rfl
  | x :: r => by simp [asBls, asBls_map f r]
/-- one sign between two -/
theorem le_one {a b : Char} : (!ltS [b] [a]) = decide (a ≤ b) := by
  have e : ltS [b] [a] = decide (b.toNat < a.toNat) := by
    unfold ltS codes
    simp only [List.map_cons, List.map_nil]
    congr 1
    rw [List.cons_lt_cons_iff]
    simp
  rw [e, Bool.eq_iff_iff]
  simp only [Bool.not_eq_true', decide_eq_false_iff_not, decide_eq_true_eq, Nat.not_lt]
  rw [Char.le_def, UInt32.le_iff_toNat_le]
  exact Iff.rfl
theorem cut_to {α : Type} {xs : List α} {k : Int} (h : 0 ≤ k) : cut xs none (some k) = xs.take k.toNat := by
  unfold cut
  simp only [HT.sIx]
  rw [if_neg (by omega)]
  simp only [List.drop_zero, Nat.sub_zero]
  rcases Nat.le_total k.toNat xs.length with q | q
  · rw [Nat.min_eq_left q]
  · rw [Nat.min_eq_right q, List.take_of_length_le (Nat.le_refl _), List.take_of_length_le q]
theorem cut_from {α : Type} {xs : List α} {k : Int} (h : 0 ≤ k) : cut xs (some k) none = xs.drop k.toNat := by
  unfold cut
  simp only [HT.sIx]
  rw [if_neg (by omega)]
  rcases Nat.le_total k.toNat xs.length with q | q
  · rw [Nat.min_eq_left q, List.take_of_length_le (by rw [List.length_drop]; exact Nat.le_refl _)]
  · rw [Nat.min_eq_right q, List.drop_of_length_le (Nat.le_refl _), List.drop_of_length_le q]
    simp
theorem cut_last {α : Type} {xs : List α} : cut xs (some (-1)) none = xs.drop (xs.length - 1) := by
  unfold cut
  simp only [HT.sIx]
  rw [if_pos (by decide)]
  have e : (-1 + (xs.length : Int)).toNat = xs.length - 1 := by omega
  rw [e, List.take_of_length_le (by rw [List.length_drop]; exact Nat.le_refl _)]
theorem cut_init {α : Type} {xs : List α} : cut xs none (some (-1)) = xs.take (xs.length - 1) := by
  unfold cut
  simp only [HT.sIx]
  rw [if_pos (by decide)]
  have e : (-1 + (xs.length : Int)).toNat = xs.length - 1 := by omega
  rw [e]
  simp
theorem atI_pos {α : Type} {xs : List α} {i : Int} (h0 : 0 ≤ i) (h1 : i < xs.length) : L2.atI xs i = xs[i.toNat]? := by
  unfold L2.atI L2.ixN
  rw [if_pos h0, if_pos h1]
  rfl
theorem atI_some {α : Type} {xs : List α} {i : Int} (h0 : 0 ≤ i) (h1 : i < xs.length) : ∃ x, L2.atI xs i = some x ∧ x ∈ xs := by
  rw [atI_pos h0 h1]
  have hl : i.toNat < xs.length := by omega
  exact ⟨xs[i.toNat], List.getElem?_eq_getElem hl, List.getElem_mem hl⟩
theorem atI_zero {α : Type} {x : α} {xs : List α} : L2.atI (x :: xs) 0 = some x := by
  rw [atI_pos (by decide) (by simp)]
  rfl
theorem datas_iff : ∀ {xs : List T}, T.datas xs = true ↔ ∀ x ∈ xs, x.data = true
  | [] => by simp [T.datas]
  | x :: r => by simp [T.datas, datas_iff (xs := r)]
theorem datas_drop {xs : List T} {n : Nat} (h : T.datas xs = true) : T.datas (xs.drop n) = true := datas_iff.mpr fun x hx => datas_iff.mp h x (List.mem_of_mem_drop hx)
/-! ### a walk through plain pieces -/
/-- what a walk does not go into -/
inductive Tk {A : Type} (f : A) : Type where
  | mk
def bndF {α β : Type} (r : Res α) (f : α → Store → Res β) (_ : Tk f) : Res β := bnd r f
theorem bndF_ok {α β : Type} {a : α} {S : Store} {f : α → Store → Res β} {t : Tk f} : bndF (.ok a S) f t = f a S := rfl
theorem bndF_err {α β : Type} {c : Nat} {S : Store} {f : α → Store → Res β} {t : Tk f} : bndF (.err c S) f t = .err c S := rfl
theorem eqOk_int {i j : Int} : eqOk (.int i) (.int j) = true := rfl
theorem eqOk_str {i j : List Char} : eqOk (.str i) (.str j) = true := rfl
theorem eqOk_bl {i j : Bool} : eqOk (.bl i) (.bl j) = true := rfl
theorem eqOk_nilT {xs : List T} (h : T.datas xs = true) : eqOk (.tup xs) (.tup []) = true := by
  simp only [eqOk, T.data, h, T.datas, Bool.and_self, Bool.true_and, T.depth, T.depths]
  refine decide_eq_true (Nat.le_trans (Nat.min_le_right _ _) ?_)
  decide
theorem eqOk_nilL {xs : List T} (h : T.datas xs = true) : eqOk (.lst xs) (.lst []) = true := by
  simp only [eqOk, T.data, h, T.datas, Bool.and_self, Bool.true_and, T.depth, T.depths]
  refine decide_eq_true (Nat.le_trans (Nat.min_le_right _ _) ?_)
  decide
theorem eqT_int {i j : Int} : eqT (.int i) (.int j) = (i == j) := rfl
theorem eqT_str {i j : List Char} : eqT (.str i) (.str j) = (i == j) := rfl
theorem eqT_nilT {xs : List T} : eqT (.tup xs) (.tup []) = xs.isEmpty := by cases xs <;> rfl
theorem eqT_nilL {xs : List T} : eqT (.lst xs) (.lst []) = xs.isEmpty := by cases xs <;> rfl
def bAnd (p : Option Bool) (E : Res T) (x : T) (S : Store) : Res T := match p with | some true => E | some false => .ok x S | none => .fail
def bOr (p : Option Bool) (E : Res T) (x : T) (S : Store) : Res T := match p with | some true => .ok x S | some false => E | none => .fail
def bIf (p : Option Bool) (A B : Res T) : Res T := match p with | some true => A | some false => B | none => .fail
theorem bAnd_t {E : Res T} {x : T} {S : Store} : bAnd (some true) E x S = E := rfl
theorem bAnd_f {E : Res T} {x : T} {S : Store} : bAnd (some false) E x S = .ok x S := rfl
theorem bAnd_b {p q : Bool} {S : Store} : bAnd (some p) (.ok (.bl q) S) (.bl p) S = .ok (.bl (p && q)) S := by cases p <;> rfl
theorem bAnd_c {p q : Bool} {S : Store} : bAnd (some p) (.ok (.bl q) S) (.bl false) S = .ok (.bl (p && q)) S := by cases p <;> rfl
theorem bOr_t {E : Res T} {x : T} {S : Store} : bOr (some true) E x S = .ok x S := rfl
theorem bOr_f {E : Res T} {x : T} {S : Store} : bOr (some false) E x S = E := rfl
theorem bOr_b {p q : Bool} {S : Store} : bOr (some p) (.ok (.bl q) S) (.bl p) S = .ok (.bl (p || q)) S := by cases p <;> rfl
theorem bIf_t {A B : Res T} : bIf (some true) A B = A := rfl
theorem bIf_f {A B : Res T} : bIf (some false) A B = B := rfl
/-- behind a statement -/
def goOn (c : Cfg) (r : List MS) (fe : Flow × Env) (S : Store) : Res (Flow × Env) := match fe.1 with
  | .next => execs c r fe.2 S
  | fl => .ok (fl, fe.2) S
theorem go_next {c : Cfg} {r : List MS} {env : Env} {S : Store} : goOn c r (.next, env) S = execs c r env S := rfl
theorem go_brk {c : Cfg} {r : List MS} {env : Env} {S : Store} : goOn c r (.brk, env) S = .ok (.brk, env) S := rfl
theorem go_cont {c : Cfg} {r : List MS} {env : Env} {S : Store} : goOn c r (.cont, env) S = .ok (.cont, env) S := rfl
theorem go_ret {c : Cfg} {r : List MS} {env : Env} {S : Store} {v : T} : goOn c r (.ret v, env) S = .ok (.ret v, env) S := rfl
section
variable {c : Cfg} {env : Env} {S : Store}
theorem e_var {i : Nat} : ev c (.var i) env S = (match env[i]? with | some (some v) => .ok v S | _ => .fail) := by
  rw [ev] <;> rfl
theorem e_int {i : Int} : ev c (.int i) env S = .ok (.int i) S := by
  rw [ev] <;> rfl
theorem e_str {s : List Char} : ev c (.str s) env S = .ok (.str s) S := by
  rw [ev] <;> rfl
theorem e_bl {b : Bool} : ev c (.bl b) env S = .ok (.bl b) S := by
  rw [ev] <;> rfl
theorem e_non : ev c .non env S = .ok .non S := by
  rw [ev] <;> rfl
theorem e_glob {g : Nat} : ev c (.glob g) env S = optR (c.gv g) id S := by
  rw [ev] <;> rfl
theorem e_tup {es : List ME} : ev c (.tup es) env S = bndF (evs c es env S) (fun vs S => .ok (.tup vs) S) .mk := by
  rw [ev] <;> rfl
theorem e_lst {h : Bool} {es : List ME} : ev c (.lst h es) env S = bndF (evs c es env S) (fun vs S => newList h vs S) .mk := by
  rw [ev] <;> rfl
theorem e_bin {h : Bool} {op : BOp} {a b : ME} : ev c (.bin h op a b) env S = bndF (ev c a env S) (fun x S => bndF (ev c b env S) (fun y S => binOp h op x y S) .mk) .mk := by
  rw [ev] <;> rfl
theorem e_neg {a : ME} : ev c (.neg a) env S = bndF (ev c a env S) (fun x S => (match x with | .int i => .ok (.int (-i)) S | _ => .fail)) .mk := by
  rw [ev] <;> rfl
theorem e_not {a : ME} : ev c (.not a) env S = bndF (ev c a env S) (fun x S => optR (truthy S x) (fun b => .bl (!b)) S) .mk := by
  rw [ev] <;> rfl
theorem e_and {a b : ME} : ev c (.and_ a b) env S = bndF (ev c a env S) (fun x S => bAnd (truthy S x) (ev c b env S) x S) .mk := by
  rw [ev] <;> rfl
theorem e_or {a b : ME} : ev c (.or_ a b) env S = bndF (ev c a env S) (fun x S => bOr (truthy S x) (ev c b env S) x S) .mk := by
  rw [ev] <;> rfl
theorem e_cmp {op : COp} {a b : ME} : ev c (.cmp op a b) env S = bndF (ev c a env S) (fun x S => bndF (ev c b env S) (fun y S => optR (cmpOp op x y S) T.bl S) .mk) .mk := by
  rw [ev] <;> rfl
theorem e_chain {o1 o2 : COp} {a b d : ME} : ev c (.chain o1 o2 a b d) env S = bndF (ev c a env S) (fun x S => bndF (ev c b env S) (fun y S => bAnd (cmpOp o1 x y S) (bndF (ev c d env S) (fun z S => optR (cmpOp o2 y z S) T.bl S) .mk) (.bl false) S) .mk) .mk := by
  rw [ev] <;> rfl
theorem e_ife {t a b : ME} : ev c (.ife t a b) env S = bndF (ev c t env S) (fun x S => bIf (truthy S x) (ev c a env S) (ev c b env S)) .mk := by
  rw [ev] <;> rfl
theorem e_call {f : Nat} {es : List ME} : ev c (.call f es) env S = bndF (evs c es env S) (fun vs S => c.cf f vs S) .mk := by
  rw [ev] <;> rfl
theorem e_bi {b : BI} {es : List ME} : ev c (.bi b es) env S = bndF (evs c es env S) (fun vs S => biOp b vs S) .mk := by
  rw [ev] <;> rfl
theorem e_isi {t : TY} {a : ME} : ev c (.isi t a) env S = bndF (ev c a env S) (fun x S => optR (isTY t x S) T.bl S) .mk := by
  rw [ev] <;> rfl
theorem e_mt {m : MT} {o : ME} {es : List ME} : ev c (.mt m o es) env S = bndF (ev c o env S) (fun x S => if mtPre m x S then bndF (evs c es env S) (fun vs S => mtOp m x vs S) .mk else .fail) .mk := by
  rw [ev] <;> rfl
theorem e_sub {a i : ME} : ev c (.sub a i) env S = bndF (ev c a env S) (fun x S => bndF (ev c i env S) (fun y S => optR (item x y S) id S) .mk) .mk := by
  rw [ev] <;> rfl
theorem e_slice {a : ME} {lo hi : Option ME} : ev c (.slice a lo hi) env S = bndF (ev c a env S) (fun x S => bndF (evo c lo env S) (fun l S => bndF (evo c hi env S) (fun h S => optR (sliceOf x l h S) id S) .mk) .mk) .mk := by
  rw [ev] <;> rfl
theorem e_rev {a : ME} : ev c (.rev a) env S = bndF (ev c a env S) (fun x S => optR (revOf x S) id S) .mk := by
  rw [ev] <;> rfl
theorem e_rng {es : List ME} : ev c (.rangeI es) env S = bndF (evs c es env S) (fun vs S => optR (rangeOf vs) id S) .mk := by
  rw [ev] <;> rfl
theorem es_nil : evs c [] env S = .ok [] S := by
  rw [evs] <;> rfl
theorem es_cons {e : ME} {es : List ME} : evs c (e :: es) env S = bndF (ev c e env S) (fun v S => bndF (evs c es env S) (fun vs S => .ok (v :: vs) S) .mk) .mk := by
  rw [evs] <;> rfl
theorem eo_none : evo c none env S = .ok none S := by
  rw [evo] <;> rfl
theorem eo_some {e : ME} : evo c (some e) env S = bndF (ev c e env S) (fun v S => (match v with | .int i => .ok (some i) S | _ => .fail)) .mk := by
  rw [evo] <;> rfl
theorem eT {e : ME} : evT c e env S = bndF (ev c e env S) (fun x S => optR (truthy S x) id S) .mk := by
  rw [evT] <;> rfl
theorem x_asg {g : MG} {e : ME} : exec c (.asg g e) env S = bndF (ev c e env S) (fun v S => optR (g.asg v env) (fun env => (Flow.next, env)) S) .mk := by
  rw [exec] <;> rfl
theorem x_par {is : List Nat} {es : List ME} : exec c (.par is es) env S = bndF (evs c es env S) (fun vs S => .ok (Flow.next, setSlots env is vs) S) .mk := by
  rw [exec] <;> rfl
theorem x_expr {e : ME} : exec c (.expr e) env S = bndF (ev c e env S) (fun _ S => .ok (Flow.next, env) S) .mk := by
  rw [exec] <;> rfl
theorem x_ret {e : ME} : exec c (.ret e) env S = bndF (ev c e env S) (fun v S => .ok (Flow.ret v, env) S) .mk := by
  rw [exec] <;> rfl
theorem x_retN : exec c .retN env S = .ok (Flow.ret .non, env) S := by
  rw [exec] <;> rfl
theorem x_if {t : ME} {a b : List MS} : exec c (.if_ t a b) env S = bndF (evT c t env S) (fun k S => if k then execs c a env S else execs c b env S) .mk := by
  rw [exec] <;> rfl
theorem x_brk : exec c .brk env S = .ok (Flow.brk, env) S := by
  rw [exec] <;> rfl
theorem x_cont : exec c .cont env S = .ok (Flow.cont, env) S := by
  rw [exec] <;> rfl
theorem x_pass : exec c .pass env S = .ok (Flow.next, env) S := by
  rw [exec] <;> rfl
theorem xs_nil : execs c [] env S = .ok (Flow.next, env) S := by
  rw [execs] <;> rfl
theorem xs_cons {m : MS} {r : List MS} : execs c (m :: r) env S = bndF (exec c m env S) (fun fe S => goOn c r fe S) .mk := by
  rw [execs] <;> rfl
theorem x_for {g : MG} {it : ME} {body : List MS} : exec c (.for_ g it body) env S = bndF (ev c it env S) (fun v S => (match itemsOf S v with
    | some (xs, r) => forLoop (forStp c g body) (still r xs) xs env S
    | none => .fail)) .mk := by
  rw [exec]
  rfl
/-- one turn of a comprehension -/
def cElt (c : Cfg) (elt : ME) (env : Env) (S : Store) : Res (Option T) := bndF (ev c elt env S) (fun y S => .ok (some y) S) .mk
def cIf (c : Cfg) (elt : ME) (env : Env) (S : Store) : Option Bool → Res (Option T)
  | some true => cElt c elt env S
  | some false => .ok none S
  | none => .fail
def cTest (c : Cfg) (cond : Option ME) (elt : ME) (env : Env) (S : Store) : Res (Option T) := match cond with
  | some t => bndF (ev c t env S) (fun b S => cIf c elt env S (truthy S b)) .mk
  | none => cElt c elt env S
theorem cs_eq {own : List Nat} {g : MG} {cond : Option ME} {elt : ME} {x : T} : compStp c own g cond elt env x S = (match g.asg x (Mi.wipe env own) with
    | some env' => cTest c cond elt env' S
    | none => .fail) := by
  unfold compStp
  cases g.asg x (Mi.wipe env own) with
  | none => rfl
  | some env' => cases cond <;> rfl
theorem cT_none {elt : ME} : cTest c none elt env S = cElt c elt env S := rfl
theorem cT_some {t elt : ME} : cTest c (some t) elt env S = bndF (ev c t env S) (fun b S => cIf c elt env S (truthy S b)) .mk := rfl
theorem cI_t {elt : ME} : cIf c elt env S (some true) = cElt c elt env S := rfl
theorem cI_f {elt : ME} : cIf c elt env S (some false) = .ok none S := rfl
end
theorem execs_next {c : Cfg} {m : MS} {r : List MS} {env env' : Env} {S S' : Store} (h : exec c m env S = .ok (.next, env') S') : execs c (m :: r) env S = execs c r env' S' := by
  rw [execs, h]
  rfl
theorem execs_ret {c : Cfg} {m : MS} {r : List MS} {env env' : Env} {S S' : Store} {v : T} (h : exec c m env S = .ok (.ret v, env') S') : execs c (m :: r) env S = .ok (.ret v, env') S' := by
  rw [execs, h]
  rfl
end Mi
namespace Lk01
open PySem Mi
/-- the text's defs -/
def b_is_name : List MS :=
  [.ret (.and_ (.isi .str (.var 0)) (.and_ (.chain .le .le (.int 1) (.bi .len [.var 0]) (.var 1)) (.bi .all [.comp false [2] (.name 2) (.var 0) none (.cmp .in_ (.var 2) (.glob 0))])))]
def n_is_name : List Str := ["thing", "most", "sign"]
def p_is_name : List Str := ["thing", "most"]
def b_is_hole : List MS :=
  [.ret (.and_ (.isi .str (.var 0)) (.and_ (.cmp .eq (.slice (.var 0) none (some (.int 1))) (.str "?".toList)) (.call 0 [.slice (.var 0) (some (.int 1)) none, .int 2])))]
def n_is_hole : List Str := ["thing"]
def p_is_hole : List Str := ["thing"]
def b_is_pattern_at : List MS :=
  [.if_ (.cmp .eq (.var 1) (.int 0)) [.ret (.bl false)] [],
   .if_ (.isi .str (.var 0)) [.ret (.or_ (.call 0 [.var 0, .int 3]) (.and_ (.var 2) (.call 1 [.var 0])))] [],
   .if_ (.or_ (.not (.isi .tup (.var 0))) (.or_ (.not (.chain .le .le (.int 2) (.bi .len [.var 0]) (.int 4))) (.not (.call 0 [.sub (.var 0) (.int 0), .int 3])))) [.ret (.bl false)] [],
   .ret (.bi .all [.comp false [3] (.name 3) (.slice (.var 0) (some (.int 1)) none) none (.call 2 [.var 3, .bin false .sub (.var 1) (.int 1), .var 2])])]
def n_is_pattern_at : List Str := ["thing", "left", "has_holes", "part"]
def p_is_pattern_at : List Str := ["thing", "left", "has_holes"]
def b_is_term : List MS :=
  [.ret (.call 2 [.var 0, .glob 1, .bl false])]
def n_is_term : List Str := ["thing"]
def p_is_term : List Str := ["thing"]
def b_is_pattern : List MS :=
  [.ret (.call 2 [.var 0, .glob 1, .bl true])]
def n_is_pattern : List Str := ["thing"]
def p_is_pattern : List Str := ["thing"]
def b__law_cell : List MS :=
  [.if_ (.cmp .lt (.var 1) (.bi .len [.var 0])) [.ret (.sub (.var 0) (.var 1))] [],
   .ret (.int 0)]
def n__law_cell : List Str := ["_law_script", "_law_k"]
def p__law_cell : List Str := ["_law_script", "_law_k"]
def b__law_mix : List MS :=
  [.asg (.name 3) (.bin false .mod (.bin false .mul (.var 0) (.int 48271)) (.var 1)),
   .ret (.bin false .mod (.bin false .mod (.bin false .mul (.var 3) (.bin false .add (.var 3) (.int 7))) (.var 1)) (.var 2))]
def n__law_mix : List Str := ["_law_cell_here", "_law_prime", "_law_many", "_law_blend"]
def p__law_mix : List Str := ["_law_cell_here", "_law_prime", "_law_many"]
def b__law_leaf : List MS :=
  [.if_ (.and_ (.var 1) (.cmp .eq (.call 6 [.var 0, .int 9973, .int 2]) (.int 0))) [.ret (.sub (.tup [.str "?x".toList, .str "?y".toList, .str "?x".toList, .str "?ab".toList]) (.call 6 [.var 0, .int 9967, .int 4]))] [],
   .ret (.sub (.tup [.str "a".toList, .str "b".toList, .str "nil".toList, .str "a".toList]) (.call 6 [.var 0, .int 9949, .int 4]))]
def n__law_leaf : List Str := ["_law_cell_here", "_law_has_holes"]
def p__law_leaf : List Str := ["_law_cell_here", "_law_has_holes"]
def b__law_tree : List MS :=
  [.asg (.name 3) (.call 6 [.var 0, .int 9941, .int 6]),
   .if_ (.or_ (.cmp .eq (.var 1) (.int 1)) (.cmp .lt (.var 3) (.int 2))) [.ret (.call 7 [.var 0, .var 2])] [],
   .asg (.name 4) (.sub (.tup [.str "f".toList, .str "g".toList, .str "f".toList, .str "not".toList]) (.call 6 [.var 0, .int 9931, .int 4])),
   .asg (.name 5) (.tup [.var 4]),
   .for_ (.name 6) (.rangeI [.sub (.tup [.int 1, .int 2, .int 2, .int 3]) (.call 6 [.var 0, .int 9929, .int 4])]) [.asg (.name 5) (.bin false .add (.var 5) (.tup [.call 8 [.bin false .add (.bin false .add (.bin false .mul (.var 0) (.int 3)) (.bin false .mul (.int 7) (.var 6))) (.int 1), .bin false .sub (.var 1) (.int 1), .var 2]]))],
   .ret (.var 5)]
def n__law_tree : List Str := ["_law_cell_here", "_law_left", "_law_has_holes", "_law_way", "_law_name", "_law_gotten", "_law_k"]
def p__law_tree : List Str := ["_law_cell_here", "_law_left", "_law_has_holes"]
def b__law_odd : List MS :=
  [.if_ (.and_ (.isi .tup (.var 0)) (.and_ (.cmp .ne (.var 0) (.tup [])) (.cmp .gt (.call 6 [.var 1, .int 9781, .int 5]) (.int 0)))) [.asg (.name 3) (.call 6 [.var 1, .int 9769, .bi .len [.var 0]]),
      .ret (.bin false .add (.bin false .add (.slice (.var 0) none (some (.var 3))) (.tup [.call 14 [.sub (.var 0) (.var 3), .bin false .add (.bin false .add (.var 1) (.bin false .mul (.int 31) (.var 3))) (.int 7)]])) (.slice (.var 0) (some (.bin false .add (.var 3) (.int 1))) none))] [],
   .asg (.name 2) (.lst false [.non, .bl true, .bl false, .int 0, .int 1, .neg (.int 1), .int 2, .int 7, .int 10, .int 1000, .str "".toList, .str "a".toList, .str "A".toList, .tup [], .tup [.str "a".toList], .lst false [.int 1]]),
   .if_ (.isi .tup (.var 0)) [.asg (.name 2) (.bin false .add (.var 2) (.bin false .mul (.lst false [.bi .list [.var 0], .bin false .add (.var 0) (.slice (.var 0) (some (.neg (.int 1))) none), .slice (.var 0) none (some (.neg (.int 1))), .rev (.var 0), .slice (.var 0) (some (.int 1)) none, .tup [.var 0]]) (.int 2)))] [.if_ (.isi .str (.var 0)) [.asg (.name 2) (.bin false .add (.var 2) (.bin false .mul (.lst false [.bin false .add (.var 0) (.str "a".toList), .slice (.var 0) none (some (.neg (.int 1))), .mt .upper (.var 0) [], .bin false .add (.var 0) (.str " ".toList), .bin false .mul (.var 0) (.int 2), .lst false [.var 0], .bin false .add (.var 0) (.slice (.var 0) none (some (.int 1)))]) (.int 2)))] [.if_ (.isi .int (.var 0)) [.asg (.name 2) (.bin false .add (.var 2) (.bin false .mul (.lst false [.bin false .add (.var 0) (.int 1), .bin false .sub (.var 0) (.int 1), .bin false .sub (.int 0) (.var 0), .tup [.var 0], .bin false .add (.var 0) (.int 2), .bin false .mul (.var 0) (.int 2)]) (.int 2)))] []]],
   .ret (.sub (.var 2) (.call 6 [.var 1, .int 9749, .bi .len [.var 2]]))]
def n__law_odd : List Str := ["_law_thing", "_law_cell_here", "_law_some", "_law_spot"]
def p__law_odd : List Str := ["_law_thing", "_law_cell_here"]
def b__law_is : List MS :=
  [.if_ (.isi .str (.var 0)) [.if_ (.and_ (.cmp .eq (.slice (.var 0) none (some (.int 1))) (.str "?".toList)) (.var 2)) [.ret (.and_ (.chain .lt .lt (.int 1) (.bi .len [.var 0]) (.int 4)) (.and_ (.cmp .gt (.var 1) (.int 0)) (.cmp .eq (.comp false [4] (.name 4) (.slice (.var 0) (some (.int 1)) none) (some (.not (.chain .le .le (.str "a".toList) (.var 4) (.str "z".toList)))) (.var 4)) (.lst false []))))] [],
      .ret (.and_ (.chain .lt .lt (.int 0) (.bi .len [.var 0]) (.int 4)) (.and_ (.cmp .gt (.var 1) (.int 0)) (.cmp .eq (.comp false [4] (.name 4) (.var 0) (some (.not (.chain .le .le (.str "a".toList) (.var 4) (.str "z".toList)))) (.var 4)) (.lst false []))))] [],
   .if_ (.or_ (.not (.isi .tup (.var 0))) (.or_ (.not (.chain .lt .lt (.int 1) (.bi .len [.var 0]) (.int 5))) (.or_ (.cmp .lt (.var 1) (.int 2)) (.not (.isi .str (.sub (.var 0) (.int 0))))))) [.ret (.bl false)] [],
   .if_ (.not (.call 15 [.sub (.var 0) (.int 0), .int 1, .bl false])) [.ret (.bl false)] [],
   .ret (.cmp .eq (.comp false [3] (.name 3) (.slice (.var 0) (some (.int 1)) none) (some (.not (.call 15 [.var 3, .bin false .sub (.var 1) (.int 1), .var 2]))) (.var 3)) (.lst false []))]
def n__law_is : List Str := ["_law_thing", "_law_left", "_law_has_holes", "_law_part", "_law_sign"]
def p__law_is : List Str := ["_law_thing", "_law_left", "_law_has_holes"]
def b_law : List MS :=
  [.for_ (.name 1) (.rangeI [.int 12]) [.asg (.name 2) (.bin false .add (.call 5 [.var 0, .bin false .mod (.var 1) (.int 9)]) (.bin false .mul (.int 31) (.var 1))),
      .par [6, 7] [.call 8 [.var 2, .int 5, .bl false], .call 8 [.bin false .add (.var 2) (.int 1), .int 5, .bl true]],
      .asg (.name 3) (.lst true [.var 6, .var 7, .tup [.str "f".toList, .var 6], .tup [.str "g".toList, .tup [.str "f".toList, .tup [.str "f".toList, .tup [.str "f".toList, .var 7]]]]]),
      .asg (.name 3) (.bin true .add (.var 3) (.lst false [.tup [.str "f".toList], .tup [.str "f".toList, .str "a".toList, .str "a".toList, .str "a".toList, .str "a".toList], .tup [.str "f".toList, .str "a".toList, .str "a".toList, .str "a".toList], .tup [.str "?x".toList, .str "a".toList]])),
      .asg (.name 3) (.bin true .add (.var 3) (.lst false [.str "".toList, .str "abcd".toList, .str "?".toList, .str "?abc".toList, .str "?ab".toList, .str "A".toList, .str "a b".toList])),
      .asg (.name 3) (.bin true .add (.var 3) (.lst false [.tup [.str "long".toList, .str "a".toList], .tup [.str "fff".toList, .str "a".toList], .tup [.tup [.str "f".toList, .str "a".toList], .str "a".toList]])),
      .asg (.name 3) (.bin true .add (.var 3) (.lst false [.non, .tup [.str "f".toList, .non], .lst false [.str "f".toList, .str "a".toList]])),
      .for_ (.name 4) (.rangeI [.int 16]) [.expr (.mt .append (.var 3) [.call 14 [.var 6, .bin false .add (.bin false .add (.call 5 [.var 0, .int 9]) (.bin false .mul (.int 17) (.var 4))) (.bin false .mul (.int 5) (.var 1))]]),
         .expr (.mt .append (.var 3) [.call 14 [.var 7, .bin false .add (.bin false .add (.call 5 [.var 0, .int 9]) (.bin false .mul (.int 19) (.var 4))) (.bin false .mul (.int 5) (.var 1))]])],
      .for_ (.name 5) (.var 3) [.for_ (.tup [.name 8, .name 9]) (.tup [.tup [.call 3 [.var 5], .call 15 [.var 5, .int 5, .bl false]], .tup [.call 4 [.var 5], .call 15 [.var 5, .int 5, .bl true]]]) [.if_ (.or_ (.and_ (.cmp .isn (.var 8) (.bl true)) (.var 9)) (.and_ (.cmp .isn (.var 8) (.bl false)) (.not (.var 9)))) [.ret (.bl false)] []]]],
   .ret (.and_ (.cmp .is_ (.call 3 [.tup [.str "f".toList, .tup [.str "f".toList, .tup [.str "f".toList, .tup [.str "f".toList, .str "a".toList]]]]]) (.bl true)) (.cmp .is_ (.call 3 [.tup [.str "f".toList, .tup [.str "f".toList, .tup [.str "f".toList, .tup [.str "f".toList, .tup [.str "f".toList, .str "a".toList]]]]]]) (.bl false)))]
def n_law : List Str := ["_law_script", "_law_k", "_law_cell_here", "_law_some", "_law_j", "_law_thing", "_law_one", "_law_other", "_law_said", "_law_due"]
def p_law : List Str := ["_law_script"]
def d_is_name : Dn := ⟨0, "is_name", 3, p_is_name, n_is_name, b_is_name⟩
def d_is_hole : Dn := ⟨1, "is_hole", 4, p_is_hole, n_is_hole, b_is_hole⟩
def d_is_pattern_at : Dn := ⟨2, "is_pattern_at", 5, p_is_pattern_at, n_is_pattern_at, b_is_pattern_at⟩
def d_is_term : Dn := ⟨3, "is_term", 6, p_is_term, n_is_term, b_is_term⟩
def d_is_pattern : Dn := ⟨4, "is_pattern", 7, p_is_pattern, n_is_pattern, b_is_pattern⟩
def d__law_cell : Dn := ⟨5, "_law_cell", 9, p__law_cell, n__law_cell, b__law_cell⟩
def d__law_mix : Dn := ⟨6, "_law_mix", 10, p__law_mix, n__law_mix, b__law_mix⟩
def d__law_leaf : Dn := ⟨7, "_law_leaf", 11, p__law_leaf, n__law_leaf, b__law_leaf⟩
def d__law_tree : Dn := ⟨8, "_law_tree", 12, p__law_tree, n__law_tree, b__law_tree⟩
def d__law_odd : Dn := ⟨14, "_law_odd", 18, p__law_odd, n__law_odd, b__law_odd⟩
def d__law_is : Dn := ⟨15, "_law_is", 19, p__law_is, n__law_is, b__law_is⟩
def d_law : Dn := ⟨16, "law", 20, p_law, n_law, b_law⟩
def ds : List Dn := [d_is_name, d_is_hole, d_is_pattern_at, d_is_term, d_is_pattern, d__law_cell, d__law_mix, d__law_leaf, d__law_tree, d__law_odd, d__law_is, d_law]
def gs : List (Str × T) := [("LETTERS", .str "abcdefghijklmnopqrstuvwxyz".toList), ("DEEPEST", .int 5)]
-- HAVE [(0, 3, 'is_name', 2, 3), (1, 4, 'is_hole', 1, 1), (2, 5, 'is_pattern_at', 3, 4), (3, 6, 'is_term', 1, 1), (4, 7, 'is_pattern', 1, 1), (5, 9, '_law_cell', 2, 2), (6, 10, '_law_mix', 3, 4), (7, 11, '_law_leaf', 2, 2), (8, 12, '_law_tree', 3, 7), (14, 18, '_law_odd', 2, 4), (15, 19, '_law_is', 3, 5), (16, 20, 'law', 1, 10)]
-- GLOBS [('LETTERS', "'abcdefghijklmnopqrstuvwxyz'"), ('DEEPEST', '5')]

end Lk01
namespace Lk01
open Mi
abbrev G : Tab := tabOf ds
abbrev gv : Nat → Option T := gvOf gs
abbrev C (d : Nat) : Cfg := ⟨callN G gv 0 d, gv, 0⟩
abbrev cl (d f : Nat) (args : List T) (S : Store) : Res T := callN G gv 0 d f args S

def let_ (c : Char) : Bool := decide (c ∈ "abcdefghijklmnopqrstuvwxyz".toList)
def nameB (s : List Char) (m : Int) : Bool := decide (1 ≤ (s.length : Int)) && decide ((s.length : Int) ≤ m) && s.all let_
theorem gv0 : gv 0 = some (.str "abcdefghijklmnopqrstuvwxyz".toList) := rfl
theorem c_is_name (d : Nat) (s : List Char) (m : Int) (S : Store) : cl (d + 1) 0 [.str s, .int m] S = .ok (.bl (nameB s m)) S := by
  have hc : ∀ S, ev (C d) (.comp false [2] (.name 2) (.var 0) none (.cmp .in_ (.var 2) (.glob 0))) [some (.str s), some (.int m), none] S = .ok (.lst (s.map fun c => .bl (let_ c))) S := by
    intro S
    rw [comp_pure (fun x => match x with | .str [c] => some (.bl (let_ c)) | _ => none) (v := .str s) (xs := s.map fun c => .str [c]) (r := none) rfl rfl rfl]
    · simp [newList, List.filterMap_map, Function.comp_def]
    · intro x hx
      obtain ⟨c, hc, rfl⟩ := List.mem_map.mp hx
      simp [compStp, MG.asg, Mi.wipe, startEnv, ev, gv0, optR, cmpOp, isIn, view, let_]
  have he : execs (C d) b_is_name [some (.str s), some (.int m), none] S = .ok (.ret (.bl (nameB s m)), [some (.str s), some (.int m), none]) S := by
    have hb := asBls_map let_ s
    have hl : (s.map let_).all id = s.all let_ := by rw [List.all_map]; rfl
    unfold nameB
    cases h1 : decide (1 ≤ (s.length : Int)) <;> cases h2 : decide ((s.length : Int) ≤ m) <;> simp only [bAnd_t, bAnd_f, bAnd_b, bAnd_c, bOr_t, bOr_f, bOr_b, bIf_t, bIf_f, bndF_ok, bndF_err, e_var, e_int, e_str, e_bl, e_non, e_glob, e_tup, e_lst, e_bin, e_neg, e_not, e_and, e_or, e_cmp, e_chain, e_ife, e_call, e_bi, e_isi, e_mt, e_sub, e_slice, e_rev, e_rng, es_nil, es_cons, eo_none, eo_some, eT, x_asg, x_par, x_expr, x_ret, x_retN, x_if, x_brk, x_cont, x_pass, xs_nil, xs_cons, go_next, go_brk, go_cont, go_ret, cs_eq, cT_none, cT_some, cElt, cI_t, cI_f, bnd_ok, List.getElem?_cons_zero, List.getElem?_cons_succ, optR, isTY, truthy, cmpOp, view, biOp, eqOk_int, eqOk_str, eqOk_bl, eqT_int, eqT_str, if_true, if_false, decide_true, decide_false, Bool.not_true, Bool.not_false, Bool.false_eq_true, id, sliceOf, item, atI_zero, binOp, newList, lstOf, Option.bind, Bool.true_and, Bool.and_true, Bool.false_and, Bool.and_false, Bool.or_true, Bool.true_or, Bool.false_or, Bool.or_false, Option.map, List.set_cons_zero, List.set_cons_succ, MG.asg, MG.asgs, setSlots, b_is_name, hc, hb, h1, h2, hl]
  exact call_ret (fd := d_is_name.fd) rfl rfl he
def strB (f : List Char → Bool) : T → Bool
  | .str s => f s
  | _ => false
theorem c_name (d : Nat) (t : T) (m : Int) (S : Store) (h : t.data = true) : cl (d + 1) 0 [t, .int m] S = .ok (.bl (strB (fun s => nameB s m) t)) S := by
  by_cases ht : ∃ s, t = .str s
  · obtain ⟨s, rfl⟩ := ht
    exact c_is_name d s m S
  · have he : execs (C d) b_is_name [some t, some (.int m), none] S = .ok (.ret (.bl (strB (fun s => nameB s m) t)), [some t, some (.int m), none]) S := by
      cases t <;> first | exact absurd ⟨_, rfl⟩ ht | (simp [T.data] at h; done) | simp only [bAnd_t, bAnd_f, bAnd_b, bAnd_c, bOr_t, bOr_f, bOr_b, bIf_t, bIf_f, bndF_ok, bndF_err, e_var, e_int, e_str, e_bl, e_non, e_glob, e_tup, e_lst, e_bin, e_neg, e_not, e_and, e_or, e_cmp, e_chain, e_ife, e_call, e_bi, e_isi, e_mt, e_sub, e_slice, e_rev, e_rng, es_nil, es_cons, eo_none, eo_some, eT, x_asg, x_par, x_expr, x_ret, x_retN, x_if, x_brk, x_cont, x_pass, xs_nil, xs_cons, go_next, go_brk, go_cont, go_ret, cs_eq, cT_none, cT_some, cElt, cI_t, cI_f, bnd_ok, List.getElem?_cons_zero, List.getElem?_cons_succ, optR, isTY, truthy, cmpOp, view, biOp, eqOk_int, eqOk_str, eqOk_bl, eqT_int, eqT_str, if_true, if_false, decide_true, decide_false, Bool.not_true, Bool.not_false, Bool.false_eq_true, id, sliceOf, item, atI_zero, binOp, newList, lstOf, Option.bind, Bool.true_and, Bool.and_true, Bool.false_and, Bool.and_false, Bool.or_true, Bool.true_or, Bool.false_or, Bool.or_false, Option.map, List.set_cons_zero, List.set_cons_succ, MG.asg, MG.asgs, setSlots, b_is_name, strB]
    exact call_ret (fd := d_is_name.fd) rfl rfl he
def holeB (s : List Char) : Bool := (s.take 1 == ['?']) && nameB (s.drop 1) 2
theorem c_is_hole (d : Nat) (s : List Char) (S : Store) : cl (d + 2) 1 [.str s] S = .ok (.bl (holeB s)) S := by
  have he : execs (C (d + 1)) b_is_hole [some (.str s)] S = .ok (.ret (.bl (holeB s)), [some (.str s)]) S := by
    have c1 := fun S => c_is_name d (s.drop 1) 2 S
    have e1 : cut s none (some 1) = s.take 1 := cut_to (by decide)
    have e2 : cut s (some 1) none = s.drop 1 := cut_from (by decide)
    have e3 : "?".toList = ['?'] := rfl
    unfold holeB
    cases h1 : (s.take 1 == ['?']) <;> simp only [bAnd_t, bAnd_f, bAnd_b, bAnd_c, bOr_t, bOr_f, bOr_b, bIf_t, bIf_f, bndF_ok, bndF_err, e_var, e_int, e_str, e_bl, e_non, e_glob, e_tup, e_lst, e_bin, e_neg, e_not, e_and, e_or, e_cmp, e_chain, e_ife, e_call, e_bi, e_isi, e_mt, e_sub, e_slice, e_rev, e_rng, es_nil, es_cons, eo_none, eo_some, eT, x_asg, x_par, x_expr, x_ret, x_retN, x_if, x_brk, x_cont, x_pass, xs_nil, xs_cons, go_next, go_brk, go_cont, go_ret, cs_eq, cT_none, cT_some, cElt, cI_t, cI_f, bnd_ok, List.getElem?_cons_zero, List.getElem?_cons_succ, optR, isTY, truthy, cmpOp, view, biOp, eqOk_int, eqOk_str, eqOk_bl, eqT_int, eqT_str, if_true, if_false, decide_true, decide_false, Bool.not_true, Bool.not_false, Bool.false_eq_true, id, sliceOf, item, atI_zero, binOp, newList, lstOf, Option.bind, Bool.true_and, Bool.and_true, Bool.false_and, Bool.and_false, Bool.or_true, Bool.true_or, Bool.false_or, Bool.or_false, Option.map, List.set_cons_zero, List.set_cons_succ, MG.asg, MG.asgs, setSlots, b_is_hole, e1, e2, e3, h1, c1]
  exact call_ret (fd := d_is_hole.fd) rfl rfl he
def patB : Nat → T → Bool → Bool
  | 0, _, _ => false
  | _ + 1, .str s, h => nameB s 3 || (h && holeB s)
  | n + 1, .tup xs, h => decide (2 ≤ (xs.length : Int)) && decide ((xs.length : Int) ≤ 4) && strB (fun s => nameB s 3) (xs.headD .non) && (xs.drop 1).all fun x => patB n x h
  | _ + 1, _, _ => false
theorem c_pat : ∀ (n : Nat) (t : T) (h : Bool) (d : Nat) (S : Store), t.data = true → cl (d + n + 3) 2 [t, .int n, .bl h] S = .ok (.bl (patB n t h)) S
  | 0, t, h, d, S, ht => by
    have he : execs (C (d + 2)) b_is_pattern_at [some t, some (.int 0), some (.bl h), none] S = .ok (.ret (.bl (patB 0 t h)), [some t, some (.int 0), some (.bl h), none]) S := by
      have e0 : ((0 : Int) == 0) = true := rfl
      simp only [bAnd_t, bAnd_f, bAnd_b, bAnd_c, bOr_t, bOr_f, bOr_b, bIf_t, bIf_f, bndF_ok, bndF_err, e_var, e_int, e_str, e_bl, e_non, e_glob, e_tup, e_lst, e_bin, e_neg, e_not, e_and, e_or, e_cmp, e_chain, e_ife, e_call, e_bi, e_isi, e_mt, e_sub, e_slice, e_rev, e_rng, es_nil, es_cons, eo_none, eo_some, eT, x_asg, x_par, x_expr, x_ret, x_retN, x_if, x_brk, x_cont, x_pass, xs_nil, xs_cons, go_next, go_brk, go_cont, go_ret, cs_eq, cT_none, cT_some, cElt, cI_t, cI_f, bnd_ok, List.getElem?_cons_zero, List.getElem?_cons_succ, optR, isTY, truthy, cmpOp, view, biOp, eqOk_int, eqOk_str, eqOk_bl, eqT_int, eqT_str, if_true, if_false, decide_true, decide_false, Bool.not_true, Bool.not_false, Bool.false_eq_true, id, sliceOf, item, atI_zero, binOp, newList, lstOf, Option.bind, Bool.true_and, Bool.and_true, Bool.false_and, Bool.and_false, Bool.or_true, Bool.true_or, Bool.false_or, Bool.or_false, Option.map, List.set_cons_zero, List.set_cons_succ, MG.asg, MG.asgs, setSlots, b_is_pattern_at, e0, patB]
    exact call_ret (fd := d_is_pattern_at.fd) rfl rfl he
  | n + 1, t, h, d, S, ht => by
    have he : execs (C (d + n + 3)) b_is_pattern_at [some t, some (.int ((n + 1 : Nat) : Int)), some (.bl h), none] S = .ok (.ret (.bl (patB (n + 1) t h)), [some t, some (.int ((n + 1 : Nat) : Int)), some (.bl h), none]) S := by
      have e0 : (((n + 1 : Nat) : Int) == 0) = false := by simp; omega
      have cn := fun (t : T) (ht : t.data = true) S => c_name (d + n + 2) t 3 S ht
      have ch := fun (s : List Char) S => c_is_hole (d + n + 1) s S
      cases t with
      | str s =>
        have c1 := fun S => c_is_name (d + n + 2) s 3 S
        have c2 := fun S => ch s S
        cases h1 : nameB s 3 <;> cases h <;> simp only [bAnd_t, bAnd_f, bAnd_b, bAnd_c, bOr_t, bOr_f, bOr_b, bIf_t, bIf_f, bndF_ok, bndF_err, e_var, e_int, e_str, e_bl, e_non, e_glob, e_tup, e_lst, e_bin, e_neg, e_not, e_and, e_or, e_cmp, e_chain, e_ife, e_call, e_bi, e_isi, e_mt, e_sub, e_slice, e_rev, e_rng, es_nil, es_cons, eo_none, eo_some, eT, x_asg, x_par, x_expr, x_ret, x_retN, x_if, x_brk, x_cont, x_pass, xs_nil, xs_cons, go_next, go_brk, go_cont, go_ret, cs_eq, cT_none, cT_some, cElt, cI_t, cI_f, bnd_ok, List.getElem?_cons_zero, List.getElem?_cons_succ, optR, isTY, truthy, cmpOp, view, biOp, eqOk_int, eqOk_str, eqOk_bl, eqT_int, eqT_str, if_true, if_false, decide_true, decide_false, Bool.not_true, Bool.not_false, Bool.false_eq_true, id, sliceOf, item, atI_zero, binOp, newList, lstOf, Option.bind, Bool.true_and, Bool.and_true, Bool.false_and, Bool.and_false, Bool.or_true, Bool.true_or, Bool.false_or, Bool.or_false, Option.map, List.set_cons_zero, List.set_cons_succ, MG.asg, MG.asgs, setSlots, b_is_pattern_at, patB, e0, c1, c2, h1]
      | tup xs =>
        have hd : T.datas xs = true := by simpa [T.data] using ht
        have hc : ∀ S, ev (C (d + n + 3)) (.comp false [3] (.name 3) (.slice (.var 0) (some (.int 1)) none) none (.call 2 [.var 3, .bin false .sub (.var 1) (.int 1), .var 2])) [some (.tup xs), some (.int ((n + 1 : Nat) : Int)), some (.bl h), none] S =
            .ok (.lst ((xs.drop 1).map fun x => .bl (patB n x h))) S := by
          intro S
          have e2 : cut xs (some 1) none = xs.drop 1 := cut_from (by decide)
          rw [comp_pure (fun x => some (.bl (patB n x h))) (v := .tup (xs.drop 1)) (xs := xs.drop 1) (r := none) (by simp only [bAnd_t, bAnd_f, bAnd_b, bAnd_c, bOr_t, bOr_f, bOr_b, bIf_t, bIf_f, bndF_ok, bndF_err, e_var, e_int, e_str, e_bl, e_non, e_glob, e_tup, e_lst, e_bin, e_neg, e_not, e_and, e_or, e_cmp, e_chain, e_ife, e_call, e_bi, e_isi, e_mt, e_sub, e_slice, e_rev, e_rng, es_nil, es_cons, eo_none, eo_some, eT, x_asg, x_par, x_expr, x_ret, x_retN, x_if, x_brk, x_cont, x_pass, xs_nil, xs_cons, go_next, go_brk, go_cont, go_ret, cs_eq, cT_none, cT_some, cElt, cI_t, cI_f, bnd_ok, List.getElem?_cons_zero, List.getElem?_cons_succ, optR, isTY, truthy, cmpOp, view, biOp, eqOk_int, eqOk_str, eqOk_bl, eqT_int, eqT_str, if_true, if_false, decide_true, decide_false, Bool.not_true, Bool.not_false, Bool.false_eq_true, id, sliceOf, item, atI_zero, binOp, newList, lstOf, Option.bind, Bool.true_and, Bool.and_true, Bool.false_and, Bool.and_false, Bool.or_true, Bool.true_or, Bool.false_or, Bool.or_false, Option.map, List.set_cons_zero, List.set_cons_succ, MG.asg, MG.asgs, setSlots, e2]) rfl rfl]
          · simp [newList]
          · intro x hx
            have hxd := datas_iff.mp (datas_drop hd) x hx
            have ih := fun S => c_pat n x h d S hxd
            have e1 : ((n + 1 : Nat) : Int) - 1 = n := by omega
            simp only [bAnd_t, bAnd_f, bAnd_b, bAnd_c, bOr_t, bOr_f, bOr_b, bIf_t, bIf_f, bndF_ok, bndF_err, e_var, e_int, e_str, e_bl, e_non, e_glob, e_tup, e_lst, e_bin, e_neg, e_not, e_and, e_or, e_cmp, e_chain, e_ife, e_call, e_bi, e_isi, e_mt, e_sub, e_slice, e_rev, e_rng, es_nil, es_cons, eo_none, eo_some, eT, x_asg, x_par, x_expr, x_ret, x_retN, x_if, x_brk, x_cont, x_pass, xs_nil, xs_cons, go_next, go_brk, go_cont, go_ret, cs_eq, cT_none, cT_some, cElt, cI_t, cI_f, bnd_ok, List.getElem?_cons_zero, List.getElem?_cons_succ, optR, isTY, truthy, cmpOp, view, biOp, eqOk_int, eqOk_str, eqOk_bl, eqT_int, eqT_str, if_true, if_false, decide_true, decide_false, Bool.not_true, Bool.not_false, Bool.false_eq_true, id, sliceOf, item, atI_zero, binOp, newList, lstOf, Option.bind, Bool.true_and, Bool.and_true, Bool.false_and, Bool.and_false, Bool.or_true, Bool.true_or, Bool.false_or, Bool.or_false, Option.map, List.set_cons_zero, List.set_cons_succ, MG.asg, MG.asgs, setSlots, Mi.wipe, e1, ih]
        have hb := asBls_map (fun x => patB n x h) (xs.drop 1)
        have hl : ((xs.drop 1).map fun x => patB n x h).all id = (xs.drop 1).all fun x => patB n x h := by rw [List.all_map]; rfl
        cases h1 : decide ((2 : Int) ≤ (xs.length : Int)) with
        | false => simp only [bAnd_t, bAnd_f, bAnd_b, bAnd_c, bOr_t, bOr_f, bOr_b, bIf_t, bIf_f, bndF_ok, bndF_err, e_var, e_int, e_str, e_bl, e_non, e_glob, e_tup, e_lst, e_bin, e_neg, e_not, e_and, e_or, e_cmp, e_chain, e_ife, e_call, e_bi, e_isi, e_mt, e_sub, e_slice, e_rev, e_rng, es_nil, es_cons, eo_none, eo_some, eT, x_asg, x_par, x_expr, x_ret, x_retN, x_if, x_brk, x_cont, x_pass, xs_nil, xs_cons, go_next, go_brk, go_cont, go_ret, cs_eq, cT_none, cT_some, cElt, cI_t, cI_f, bnd_ok, List.getElem?_cons_zero, List.getElem?_cons_succ, optR, isTY, truthy, cmpOp, view, biOp, eqOk_int, eqOk_str, eqOk_bl, eqT_int, eqT_str, if_true, if_false, decide_true, decide_false, Bool.not_true, Bool.not_false, Bool.false_eq_true, id, sliceOf, item, atI_zero, binOp, newList, lstOf, Option.bind, Bool.true_and, Bool.and_true, Bool.false_and, Bool.and_false, Bool.or_true, Bool.true_or, Bool.false_or, Bool.or_false, Option.map, List.set_cons_zero, List.set_cons_succ, MG.asg, MG.asgs, setSlots, b_is_pattern_at, patB, e0, h1]
        | true =>
          cases h2 : decide ((xs.length : Int) ≤ 4) with
          | false => simp only [bAnd_t, bAnd_f, bAnd_b, bAnd_c, bOr_t, bOr_f, bOr_b, bIf_t, bIf_f, bndF_ok, bndF_err, e_var, e_int, e_str, e_bl, e_non, e_glob, e_tup, e_lst, e_bin, e_neg, e_not, e_and, e_or, e_cmp, e_chain, e_ife, e_call, e_bi, e_isi, e_mt, e_sub, e_slice, e_rev, e_rng, es_nil, es_cons, eo_none, eo_some, eT, x_asg, x_par, x_expr, x_ret, x_retN, x_if, x_brk, x_cont, x_pass, xs_nil, xs_cons, go_next, go_brk, go_cont, go_ret, cs_eq, cT_none, cT_some, cElt, cI_t, cI_f, bnd_ok, List.getElem?_cons_zero, List.getElem?_cons_succ, optR, isTY, truthy, cmpOp, view, biOp, eqOk_int, eqOk_str, eqOk_bl, eqT_int, eqT_str, if_true, if_false, decide_true, decide_false, Bool.not_true, Bool.not_false, Bool.false_eq_true, id, sliceOf, item, atI_zero, binOp, newList, lstOf, Option.bind, Bool.true_and, Bool.and_true, Bool.false_and, Bool.and_false, Bool.or_true, Bool.true_or, Bool.false_or, Bool.or_false, Option.map, List.set_cons_zero, List.set_cons_succ, MG.asg, MG.asgs, setSlots, b_is_pattern_at, patB, e0, h1, h2]
          | true =>
            cases xs with
            | nil => cases h1
            | cons y ys =>
              have hy := datas_iff.mp hd y List.mem_cons_self
              have cy := fun S => cn y hy S
              cases h3 : strB (fun s => nameB s 3) y
              · simp only [bAnd_t, bAnd_f, bAnd_b, bAnd_c, bOr_t, bOr_f, bOr_b, bIf_t, bIf_f, bndF_ok, bndF_err, e_var, e_int, e_str, e_bl, e_non, e_glob, e_tup, e_lst, e_bin, e_neg, e_not, e_and, e_or, e_cmp, e_chain, e_ife, e_call, e_bi, e_isi, e_mt, e_sub, e_slice, e_rev, e_rng, es_nil, es_cons, eo_none, eo_some, eT, x_asg, x_par, x_expr, x_ret, x_retN, x_if, x_brk, x_cont, x_pass, xs_nil, xs_cons, go_next, go_brk, go_cont, go_ret, cs_eq, cT_none, cT_some, cElt, cI_t, cI_f, bnd_ok, List.getElem?_cons_zero, List.getElem?_cons_succ, optR, isTY, truthy, cmpOp, view, biOp, eqOk_int, eqOk_str, eqOk_bl, eqT_int, eqT_str, if_true, if_false, decide_true, decide_false, Bool.not_true, Bool.not_false, Bool.false_eq_true, id, sliceOf, item, atI_zero, binOp, newList, lstOf, Option.bind, Bool.true_and, Bool.and_true, Bool.false_and, Bool.and_false, Bool.or_true, Bool.true_or, Bool.false_or, Bool.or_false, Option.map, List.set_cons_zero, List.set_cons_succ, MG.asg, MG.asgs, setSlots, b_is_pattern_at, patB, e0, h1, h2, cy, h3, List.headD_cons]
              · simp only [bAnd_t, bAnd_f, bAnd_b, bAnd_c, bOr_t, bOr_f, bOr_b, bIf_t, bIf_f, bndF_ok, bndF_err, e_var, e_int, e_str, e_bl, e_non, e_glob, e_tup, e_lst, e_bin, e_neg, e_not, e_and, e_or, e_cmp, e_chain, e_ife, e_call, e_bi, e_isi, e_mt, e_sub, e_slice, e_rev, e_rng, es_nil, es_cons, eo_none, eo_some, eT, x_asg, x_par, x_expr, x_ret, x_retN, x_if, x_brk, x_cont, x_pass, xs_nil, xs_cons, go_next, go_brk, go_cont, go_ret, cs_eq, cT_none, cT_some, cElt, cI_t, cI_f, bnd_ok, List.getElem?_cons_zero, List.getElem?_cons_succ, optR, isTY, truthy, cmpOp, view, biOp, eqOk_int, eqOk_str, eqOk_bl, eqT_int, eqT_str, if_true, if_false, decide_true, decide_false, Bool.not_true, Bool.not_false, Bool.false_eq_true, id, sliceOf, item, atI_zero, binOp, newList, lstOf, Option.bind, Bool.true_and, Bool.and_true, Bool.false_and, Bool.and_false, Bool.or_true, Bool.true_or, Bool.false_or, Bool.or_false, Option.map, List.set_cons_zero, List.set_cons_succ, MG.asg, MG.asgs, setSlots, b_is_pattern_at, patB, e0, h1, h2, cy, h3, hc, hb, hl, List.headD_cons]
      | scr ns => simp [T.data] at ht
      | ref ns => simp [T.data] at ht
      | _ => simp only [bAnd_t, bAnd_f, bAnd_b, bAnd_c, bOr_t, bOr_f, bOr_b, bIf_t, bIf_f, bndF_ok, bndF_err, e_var, e_int, e_str, e_bl, e_non, e_glob, e_tup, e_lst, e_bin, e_neg, e_not, e_and, e_or, e_cmp, e_chain, e_ife, e_call, e_bi, e_isi, e_mt, e_sub, e_slice, e_rev, e_rng, es_nil, es_cons, eo_none, eo_some, eT, x_asg, x_par, x_expr, x_ret, x_retN, x_if, x_brk, x_cont, x_pass, xs_nil, xs_cons, go_next, go_brk, go_cont, go_ret, cs_eq, cT_none, cT_some, cElt, cI_t, cI_f, bnd_ok, List.getElem?_cons_zero, List.getElem?_cons_succ, optR, isTY, truthy, cmpOp, view, biOp, eqOk_int, eqOk_str, eqOk_bl, eqT_int, eqT_str, if_true, if_false, decide_true, decide_false, Bool.not_true, Bool.not_false, Bool.false_eq_true, id, sliceOf, item, atI_zero, binOp, newList, lstOf, Option.bind, Bool.true_and, Bool.and_true, Bool.false_and, Bool.and_false, Bool.or_true, Bool.true_or, Bool.false_or, Bool.or_false, Option.map, List.set_cons_zero, List.set_cons_succ, MG.asg, MG.asgs, setSlots, b_is_pattern_at, patB, e0]
    exact call_ret (fd := d_is_pattern_at.fd) rfl rfl he
end Lk01
namespace Lk01
open Mi
theorem gv1 : gv 1 = some (.int 5) := rfl
theorem c_is_term (d : Nat) (t : T) (S : Store) (ht : t.data = true) : cl (d + 9) 3 [t] S = .ok (.bl (patB 5 t false)) S := by
  have c1 : ∀ S, cl (d + 8) 2 [t, .int 5, .bl false] S = .ok (.bl (patB 5 t false)) S := fun S => c_pat 5 t false d S ht
  have he : execs (C (d + 8)) b_is_term [some t] S = .ok (.ret (.bl (patB 5 t false)), [some t]) S := by
    simp only [bAnd_t, bAnd_f, bAnd_b, bAnd_c, bOr_t, bOr_f, bOr_b, bIf_t, bIf_f, bndF_ok, bndF_err, e_var, e_int, e_str, e_bl, e_non, e_glob, e_tup, e_lst, e_bin, e_neg, e_not, e_and, e_or, e_cmp, e_chain, e_ife, e_call, e_bi, e_isi, e_mt, e_sub, e_slice, e_rev, e_rng, es_nil, es_cons, eo_none, eo_some, eT, x_asg, x_par, x_expr, x_ret, x_retN, x_if, x_brk, x_cont, x_pass, xs_nil, xs_cons, go_next, go_brk, go_cont, go_ret, cs_eq, cT_none, cT_some, cElt, cI_t, cI_f, bnd_ok, List.getElem?_cons_zero, List.getElem?_cons_succ, optR, isTY, truthy, cmpOp, view, biOp, eqOk_int, eqOk_str, eqOk_bl, eqT_int, eqT_str, if_true, if_false, decide_true, decide_false, Bool.not_true, Bool.not_false, Bool.false_eq_true, id, sliceOf, item, atI_zero, binOp, newList, lstOf, Option.bind, Bool.true_and, Bool.and_true, Bool.false_and, Bool.and_false, Bool.or_true, Bool.true_or, Bool.false_or, Bool.or_false, Option.map, List.set_cons_zero, List.set_cons_succ, MG.asg, MG.asgs, setSlots, b_is_term, gv1, c1]
  exact call_ret (fd := d_is_term.fd) rfl rfl he
theorem c_is_pattern (d : Nat) (t : T) (S : Store) (ht : t.data = true) : cl (d + 9) 4 [t] S = .ok (.bl (patB 5 t true)) S := by
  have c1 : ∀ S, cl (d + 8) 2 [t, .int 5, .bl true] S = .ok (.bl (patB 5 t true)) S := fun S => c_pat 5 t true d S ht
  have he : execs (C (d + 8)) b_is_pattern [some t] S = .ok (.ret (.bl (patB 5 t true)), [some t]) S := by
    simp only [bAnd_t, bAnd_f, bAnd_b, bAnd_c, bOr_t, bOr_f, bOr_b, bIf_t, bIf_f, bndF_ok, bndF_err, e_var, e_int, e_str, e_bl, e_non, e_glob, e_tup, e_lst, e_bin, e_neg, e_not, e_and, e_or, e_cmp, e_chain, e_ife, e_call, e_bi, e_isi, e_mt, e_sub, e_slice, e_rev, e_rng, es_nil, es_cons, eo_none, eo_some, eT, x_asg, x_par, x_expr, x_ret, x_retN, x_if, x_brk, x_cont, x_pass, xs_nil, xs_cons, go_next, go_brk, go_cont, go_ret, cs_eq, cT_none, cT_some, cElt, cI_t, cI_f, bnd_ok, List.getElem?_cons_zero, List.getElem?_cons_succ, optR, isTY, truthy, cmpOp, view, biOp, eqOk_int, eqOk_str, eqOk_bl, eqT_int, eqT_str, if_true, if_false, decide_true, decide_false, Bool.not_true, Bool.not_false, Bool.false_eq_true, id, sliceOf, item, atI_zero, binOp, newList, lstOf, Option.bind, Bool.true_and, Bool.and_true, Bool.false_and, Bool.and_false, Bool.or_true, Bool.true_or, Bool.false_or, Bool.or_false, Option.map, List.set_cons_zero, List.set_cons_succ, MG.asg, MG.asgs, setSlots, b_is_pattern, gv1, c1]
  exact call_ret (fd := d_is_pattern.fd) rfl rfl he

/-! ### the law's own look -/
def goodC (c : Char) : Bool := decide ('a' ≤ c) && decide (c ≤ 'z')
def isS (n : Nat) (s : List Char) (h : Bool) : Bool :=
  if ((s.take 1 == ['?']) && h) = true then decide ((1 : Int) < s.length) && decide ((s.length : Int) < 4) && decide ((0 : Int) < n) && (s.drop 1).all goodC
  else decide ((0 : Int) < s.length) && decide ((s.length : Int) < 4) && decide ((0 : Int) < n) && s.all goodC
def isB : Nat → T → Bool → Bool
  | n, .str s, h => isS n s h
  | n + 1, .tup xs, h => decide ((1 : Int) < xs.length) && decide ((xs.length : Int) < 5) && !decide (((n + 1 : Nat) : Int) < 2) && strB (fun s => isS 1 s false) (xs.headD .non) && (xs.drop 1).all fun x => isB n x h
  | _, _, _ => false
def sgF : T → Option T
  | .str [c] => if goodC c then none else some (.str [c])
  | _ => none
theorem sgF_map (s : List Char) : (s.map fun c => T.str [c]).filterMap sgF = (s.filter fun c => !goodC c).map fun c => T.str [c] := by
  induction s with
  | nil => rfl
  | cons c r ih =>
    rw [List.map_cons, List.filterMap_cons, List.filter_cons]
    cases hg : goodC c <;> simp [sgF, hg, ih]
/-- the signs that are none -/
theorem c_signs (d : Nat) (it : ME) (env : Env) (s : List Char) (hi : ∀ S, ev (C d) it env S = .ok (.str s) S) (h5 : env.length = 5) (S : Store) :
    ev (C d) (.comp false [4] (.name 4) it (some (.not (.chain .le .le (.str "a".toList) (.var 4) (.str "z".toList)))) (.var 4)) env S = .ok (.lst ((s.filter fun c => !goodC c).map fun c => T.str [c])) S := by
  rw [comp_pure sgF (v := .str s) (xs := s.map fun c => .str [c]) (r := none) (hi S) rfl rfl]
  · rw [sgF_map] <;> rfl
  · intro x hx
    obtain ⟨c, hc, rfl⟩ := List.mem_map.mp hx
    match env, h5 with
    | [a0, a1, a2, a3, a4], _ =>
      have e1 : "a".toList = ['a'] := rfl
      have e2 : "z".toList = ['z'] := rfl
      unfold sgF goodC
      cases h1 : decide ('a' ≤ c) <;> cases h2 : decide (c ≤ 'z') <;> simp only [bAnd_t, bAnd_f, bAnd_b, bAnd_c, bOr_t, bOr_f, bOr_b, bIf_t, bIf_f, bndF_ok, bndF_err, e_var, e_int, e_str, e_bl, e_non, e_glob, e_tup, e_lst, e_bin, e_neg, e_not, e_and, e_or, e_cmp, e_chain, e_ife, e_call, e_bi, e_isi, e_mt, e_sub, e_slice, e_rev, e_rng, es_nil, es_cons, eo_none, eo_some, eT, x_asg, x_par, x_expr, x_ret, x_retN, x_if, x_brk, x_cont, x_pass, xs_nil, xs_cons, go_next, go_brk, go_cont, go_ret, cs_eq, cT_none, cT_some, cElt, cI_t, cI_f, bnd_ok, List.getElem?_cons_zero, List.getElem?_cons_succ, optR, isTY, truthy, cmpOp, view, biOp, eqOk_int, eqOk_str, eqOk_bl, eqT_int, eqT_str, if_true, if_false, decide_true, decide_false, Bool.not_true, Bool.not_false, Bool.false_eq_true, id, sliceOf, item, atI_zero, binOp, newList, lstOf, Option.bind, Bool.true_and, Bool.and_true, Bool.false_and, Bool.and_false, Bool.or_true, Bool.true_or, Bool.false_or, Bool.or_false, Option.map, List.set_cons_zero, List.set_cons_succ, MG.asg, MG.asgs, setSlots, Mi.wipe, e1, e2, le_one, h1, h2]
theorem all_good (s : List Char) : ((s.filter fun c => !goodC c).map fun c => T.str [c]).isEmpty = s.all goodC := by
  induction s with
  | nil => rfl
  | cons c r ih =>
    rw [List.filter_cons, List.all_cons]
    cases hg : goodC c <;> simp [ih]
theorem strs_data (s : List Char) (p : Char → Bool) : T.datas ((s.filter p).map fun c => T.str [c]) = true := datas_iff.mpr fun x hx => by
  obtain ⟨c, _, rfl⟩ := List.mem_map.mp hx
  rfl
theorem c_isS (d n : Nat) (s : List Char) (h : Bool) (S : Store) : cl (d + 1) 15 [.str s, .int n, .bl h] S = .ok (.bl (isS n s h)) S := by
  have he : execs (C d) b__law_is [some (.str s), some (.int n), some (.bl h), none, none] S = .ok (.ret (.bl (isS n s h)), [some (.str s), some (.int n), some (.bl h), none, none]) S := by
    have e1 : cut s none (some 1) = s.take 1 := cut_to (by decide)
    have e2 : cut s (some 1) none = s.drop 1 := cut_from (by decide)
    have e3 : "?".toList = ['?'] := rfl
    have c1 := fun S => c_signs d (.slice (.var 0) (some (.int 1)) none) [some (.str s), some (.int n), some (.bl h), none, none] (s.drop 1) (fun S => by simp only [bAnd_t, bAnd_f, bAnd_b, bAnd_c, bOr_t, bOr_f, bOr_b, bIf_t, bIf_f, bndF_ok, bndF_err, e_var, e_int, e_str, e_bl, e_non, e_glob, e_tup, e_lst, e_bin, e_neg, e_not, e_and, e_or, e_cmp, e_chain, e_ife, e_call, e_bi, e_isi, e_mt, e_sub, e_slice, e_rev, e_rng, es_nil, es_cons, eo_none, eo_some, eT, x_asg, x_par, x_expr, x_ret, x_retN, x_if, x_brk, x_cont, x_pass, xs_nil, xs_cons, go_next, go_brk, go_cont, go_ret, cs_eq, cT_none, cT_some, cElt, cI_t, cI_f, bnd_ok, List.getElem?_cons_zero, List.getElem?_cons_succ, optR, isTY, truthy, cmpOp, view, biOp, eqOk_int, eqOk_str, eqOk_bl, eqT_int, eqT_str, if_true, if_false, decide_true, decide_false, Bool.not_true, Bool.not_false, Bool.false_eq_true, id, sliceOf, item, atI_zero, binOp, newList, lstOf, Option.bind, Bool.true_and, Bool.and_true, Bool.false_and, Bool.and_false, Bool.or_true, Bool.true_or, Bool.false_or, Bool.or_false, Option.map, List.set_cons_zero, List.set_cons_succ, MG.asg, MG.asgs, setSlots, e2]) rfl S
    have c2 := fun S => c_signs d (.var 0) [some (.str s), some (.int n), some (.bl h), none, none] s (fun S => by simp only [bAnd_t, bAnd_f, bAnd_b, bAnd_c, bOr_t, bOr_f, bOr_b, bIf_t, bIf_f, bndF_ok, bndF_err, e_var, e_int, e_str, e_bl, e_non, e_glob, e_tup, e_lst, e_bin, e_neg, e_not, e_and, e_or, e_cmp, e_chain, e_ife, e_call, e_bi, e_isi, e_mt, e_sub, e_slice, e_rev, e_rng, es_nil, es_cons, eo_none, eo_some, eT, x_asg, x_par, x_expr, x_ret, x_retN, x_if, x_brk, x_cont, x_pass, xs_nil, xs_cons, go_next, go_brk, go_cont, go_ret, cs_eq, cT_none, cT_some, cElt, cI_t, cI_f, bnd_ok, List.getElem?_cons_zero, List.getElem?_cons_succ, optR, isTY, truthy, cmpOp, view, biOp, eqOk_int, eqOk_str, eqOk_bl, eqT_int, eqT_str, if_true, if_false, decide_true, decide_false, Bool.not_true, Bool.not_false, Bool.false_eq_true, id, sliceOf, item, atI_zero, binOp, newList, lstOf, Option.bind, Bool.true_and, Bool.and_true, Bool.false_and, Bool.and_false, Bool.or_true, Bool.true_or, Bool.false_or, Bool.or_false, Option.map, List.set_cons_zero, List.set_cons_succ, MG.asg, MG.asgs, setSlots]) rfl S
    have k1 := eqOk_nilL (strs_data (s.drop 1) fun c => !goodC c)
    have k2 := eqOk_nilL (strs_data s fun c => !goodC c)
    unfold isS
    cases hq : (s.take 1 == ['?']) <;> cases h <;> simp only [bAnd_t, bAnd_f, bAnd_b, bAnd_c, bOr_t, bOr_f, bOr_b, bIf_t, bIf_f, bndF_ok, bndF_err, e_var, e_int, e_str, e_bl, e_non, e_glob, e_tup, e_lst, e_bin, e_neg, e_not, e_and, e_or, e_cmp, e_chain, e_ife, e_call, e_bi, e_isi, e_mt, e_sub, e_slice, e_rev, e_rng, es_nil, es_cons, eo_none, eo_some, eT, x_asg, x_par, x_expr, x_ret, x_retN, x_if, x_brk, x_cont, x_pass, xs_nil, xs_cons, go_next, go_brk, go_cont, go_ret, cs_eq, cT_none, cT_some, cElt, cI_t, cI_f, bnd_ok, List.getElem?_cons_zero, List.getElem?_cons_succ, optR, isTY, truthy, cmpOp, view, biOp, eqOk_int, eqOk_str, eqOk_bl, eqT_int, eqT_str, if_true, if_false, decide_true, decide_false, Bool.not_true, Bool.not_false, Bool.false_eq_true, id, sliceOf, item, atI_zero, binOp, newList, lstOf, Option.bind, Bool.true_and, Bool.and_true, Bool.false_and, Bool.and_false, Bool.or_true, Bool.true_or, Bool.false_or, Bool.or_false, Option.map, List.set_cons_zero, List.set_cons_succ, MG.asg, MG.asgs, setSlots, b__law_is, e1, e3, hq, c1, c2, k1, k2, eqT_nilL, all_good] <;> simp only [Bool.and_assoc]
  exact call_ret (fd := d__law_is.fd) rfl rfl he
end Lk01
namespace Lk01
open Mi
def isF (n : Nat) (h : Bool) (x : T) : Option T := if isB n x h then none else some x
theorem isF_nil {n : Nat} {h : Bool} : ∀ {xs : List T}, (xs.filterMap (isF n h)).isEmpty = xs.all fun x => isB n x h
  | [] => rfl
  | x :: r => by
    rw [List.filterMap_cons, List.all_cons, ← isF_nil (xs := r)]
    unfold isF
    cases isB n x h <;> simp
theorem isF_data {n : Nat} {h : Bool} {xs : List T} (hd : T.datas xs = true) : T.datas (xs.filterMap (isF n h)) = true := datas_iff.mpr fun x hx => by
  obtain ⟨y, hy, e⟩ := List.mem_filterMap.mp hx
  unfold isF at e
  split at e
  · cases e
  · cases e
    exact datas_iff.mp hd _ hy
theorem c_is : ∀ (n : Nat) (t : T) (h : Bool) (d : Nat) (S : Store), t.data = true → cl (d + n + 2) 15 [t, .int n, .bl h] S = .ok (.bl (isB n t h)) S
  | n, .str s, h, d, S, ht => by
    have e : isB n (.str s) h = isS n s h := by cases n <;> rfl
    rw [e]
    exact c_isS (d + n + 1) n s h S
  | n, .tup xs, h, d, S, ht => by
    have hd : T.datas xs = true := by simpa [T.data] using ht
    have he : execs (C (d + n + 1)) b__law_is [some (.tup xs), some (.int n), some (.bl h), none, none] S = .ok (.ret (.bl (isB n (.tup xs) h)), [some (.tup xs), some (.int n), some (.bl h), none, none]) S := by
      cases h1 : decide ((1 : Int) < (xs.length : Int)) with
      | false => cases n <;> simp only [bAnd_t, bAnd_f, bAnd_b, bAnd_c, bOr_t, bOr_f, bOr_b, bIf_t, bIf_f, bndF_ok, bndF_err, e_var, e_int, e_str, e_bl, e_non, e_glob, e_tup, e_lst, e_bin, e_neg, e_not, e_and, e_or, e_cmp, e_chain, e_ife, e_call, e_bi, e_isi, e_mt, e_sub, e_slice, e_rev, e_rng, es_nil, es_cons, eo_none, eo_some, eT, x_asg, x_par, x_expr, x_ret, x_retN, x_if, x_brk, x_cont, x_pass, xs_nil, xs_cons, go_next, go_brk, go_cont, go_ret, cs_eq, cT_none, cT_some, cElt, cI_t, cI_f, bnd_ok, List.getElem?_cons_zero, List.getElem?_cons_succ, optR, isTY, truthy, cmpOp, view, biOp, eqOk_int, eqOk_str, eqOk_bl, eqT_int, eqT_str, if_true, if_false, decide_true, decide_false, Bool.not_true, Bool.not_false, Bool.false_eq_true, id, sliceOf, item, atI_zero, binOp, newList, lstOf, Option.bind, Bool.true_and, Bool.and_true, Bool.false_and, Bool.and_false, Bool.or_true, Bool.true_or, Bool.false_or, Bool.or_false, Option.map, List.set_cons_zero, List.set_cons_succ, MG.asg, MG.asgs, setSlots, b__law_is, isB, h1]
      | true =>
        cases h2 : decide ((xs.length : Int) < 5) with
        | false => cases n <;> simp only [bAnd_t, bAnd_f, bAnd_b, bAnd_c, bOr_t, bOr_f, bOr_b, bIf_t, bIf_f, bndF_ok, bndF_err, e_var, e_int, e_str, e_bl, e_non, e_glob, e_tup, e_lst, e_bin, e_neg, e_not, e_and, e_or, e_cmp, e_chain, e_ife, e_call, e_bi, e_isi, e_mt, e_sub, e_slice, e_rev, e_rng, es_nil, es_cons, eo_none, eo_some, eT, x_asg, x_par, x_expr, x_ret, x_retN, x_if, x_brk, x_cont, x_pass, xs_nil, xs_cons, go_next, go_brk, go_cont, go_ret, cs_eq, cT_none, cT_some, cElt, cI_t, cI_f, bnd_ok, List.getElem?_cons_zero, List.getElem?_cons_succ, optR, isTY, truthy, cmpOp, view, biOp, eqOk_int, eqOk_str, eqOk_bl, eqT_int, eqT_str, if_true, if_false, decide_true, decide_false, Bool.not_true, Bool.not_false, Bool.false_eq_true, id, sliceOf, item, atI_zero, binOp, newList, lstOf, Option.bind, Bool.true_and, Bool.and_true, Bool.false_and, Bool.and_false, Bool.or_true, Bool.true_or, Bool.false_or, Bool.or_false, Option.map, List.set_cons_zero, List.set_cons_succ, MG.asg, MG.asgs, setSlots, b__law_is, isB, h1, h2]
        | true =>
          cases n with
          | zero =>
            have h3 : decide (((0 : Nat) : Int) < 2) = true := rfl
            simp only [bAnd_t, bAnd_f, bAnd_b, bAnd_c, bOr_t, bOr_f, bOr_b, bIf_t, bIf_f, bndF_ok, bndF_err, e_var, e_int, e_str, e_bl, e_non, e_glob, e_tup, e_lst, e_bin, e_neg, e_not, e_and, e_or, e_cmp, e_chain, e_ife, e_call, e_bi, e_isi, e_mt, e_sub, e_slice, e_rev, e_rng, es_nil, es_cons, eo_none, eo_some, eT, x_asg, x_par, x_expr, x_ret, x_retN, x_if, x_brk, x_cont, x_pass, xs_nil, xs_cons, go_next, go_brk, go_cont, go_ret, cs_eq, cT_none, cT_some, cElt, cI_t, cI_f, bnd_ok, List.getElem?_cons_zero, List.getElem?_cons_succ, optR, isTY, truthy, cmpOp, view, biOp, eqOk_int, eqOk_str, eqOk_bl, eqT_int, eqT_str, if_true, if_false, decide_true, decide_false, Bool.not_true, Bool.not_false, Bool.false_eq_true, id, sliceOf, item, atI_zero, binOp, newList, lstOf, Option.bind, Bool.true_and, Bool.and_true, Bool.false_and, Bool.and_false, Bool.or_true, Bool.true_or, Bool.false_or, Bool.or_false, Option.map, List.set_cons_zero, List.set_cons_succ, MG.asg, MG.asgs, setSlots, b__law_is, isB, h1, h2, h3]
          | succ n =>
            cases h3 : decide (((n + 1 : Nat) : Int) < 2) with
            | true => simp only [bAnd_t, bAnd_f, bAnd_b, bAnd_c, bOr_t, bOr_f, bOr_b, bIf_t, bIf_f, bndF_ok, bndF_err, e_var, e_int, e_str, e_bl, e_non, e_glob, e_tup, e_lst, e_bin, e_neg, e_not, e_and, e_or, e_cmp, e_chain, e_ife, e_call, e_bi, e_isi, e_mt, e_sub, e_slice, e_rev, e_rng, es_nil, es_cons, eo_none, eo_some, eT, x_asg, x_par, x_expr, x_ret, x_retN, x_if, x_brk, x_cont, x_pass, xs_nil, xs_cons, go_next, go_brk, go_cont, go_ret, cs_eq, cT_none, cT_some, cElt, cI_t, cI_f, bnd_ok, List.getElem?_cons_zero, List.getElem?_cons_succ, optR, isTY, truthy, cmpOp, view, biOp, eqOk_int, eqOk_str, eqOk_bl, eqT_int, eqT_str, if_true, if_false, decide_true, decide_false, Bool.not_true, Bool.not_false, Bool.false_eq_true, id, sliceOf, item, atI_zero, binOp, newList, lstOf, Option.bind, Bool.true_and, Bool.and_true, Bool.false_and, Bool.and_false, Bool.or_true, Bool.true_or, Bool.false_or, Bool.or_false, Option.map, List.set_cons_zero, List.set_cons_succ, MG.asg, MG.asgs, setSlots, b__law_is, isB, h1, h2, h3]
            | false =>
              cases xs with
              | nil => cases h1
              | cons y ys =>
                have hdy := datas_iff.mp hd y List.mem_cons_self
                have hdd : T.datas ((y :: ys).drop 1) = true := datas_drop hd
                have e2 : cut (y :: ys) (some 1) none = (y :: ys).drop 1 := cut_from (by decide)
                have hc : ∀ S, ev (C (d + (n + 1) + 1)) (.comp false [3] (.name 3) (.slice (.var 0) (some (.int 1)) none) (some (.not (.call 15 [.var 3, .bin false .sub (.var 1) (.int 1), .var 2]))) (.var 3)) [some (.tup (y :: ys)), some (.int ((n + 1 : Nat) : Int)), some (.bl h), none, none] S =
                    .ok (.lst (((y :: ys).drop 1).filterMap (isF n h))) S := by
                  intro S
                  rw [comp_pure (isF n h) (v := .tup ((y :: ys).drop 1)) (xs := (y :: ys).drop 1) (r := none) (by simp only [bAnd_t, bAnd_f, bAnd_b, bAnd_c, bOr_t, bOr_f, bOr_b, bIf_t, bIf_f, bndF_ok, bndF_err, e_var, e_int, e_str, e_bl, e_non, e_glob, e_tup, e_lst, e_bin, e_neg, e_not, e_and, e_or, e_cmp, e_chain, e_ife, e_call, e_bi, e_isi, e_mt, e_sub, e_slice, e_rev, e_rng, es_nil, es_cons, eo_none, eo_some, eT, x_asg, x_par, x_expr, x_ret, x_retN, x_if, x_brk, x_cont, x_pass, xs_nil, xs_cons, go_next, go_brk, go_cont, go_ret, cs_eq, cT_none, cT_some, cElt, cI_t, cI_f, bnd_ok, List.getElem?_cons_zero, List.getElem?_cons_succ, optR, isTY, truthy, cmpOp, view, biOp, eqOk_int, eqOk_str, eqOk_bl, eqT_int, eqT_str, if_true, if_false, decide_true, decide_false, Bool.not_true, Bool.not_false, Bool.false_eq_true, id, sliceOf, item, atI_zero, binOp, newList, lstOf, Option.bind, Bool.true_and, Bool.and_true, Bool.false_and, Bool.and_false, Bool.or_true, Bool.true_or, Bool.false_or, Bool.or_false, Option.map, List.set_cons_zero, List.set_cons_succ, MG.asg, MG.asgs, setSlots, e2]) rfl rfl]
                  · rfl
                  · intro x hx
                    have ih : ∀ S, callN G gv 0 (d + (n + 1) + 1) 15 [x, .int n, .bl h] S = .ok (.bl (isB n x h)) S := fun S => c_is n x h d S (datas_iff.mp hdd x hx)
                    have e1 : ((n + 1 : Nat) : Int) - 1 = n := by omega
                    unfold isF
                    cases hb : isB n x h <;> simp only [bAnd_t, bAnd_f, bAnd_b, bAnd_c, bOr_t, bOr_f, bOr_b, bIf_t, bIf_f, bndF_ok, bndF_err, e_var, e_int, e_str, e_bl, e_non, e_glob, e_tup, e_lst, e_bin, e_neg, e_not, e_and, e_or, e_cmp, e_chain, e_ife, e_call, e_bi, e_isi, e_mt, e_sub, e_slice, e_rev, e_rng, es_nil, es_cons, eo_none, eo_some, eT, x_asg, x_par, x_expr, x_ret, x_retN, x_if, x_brk, x_cont, x_pass, xs_nil, xs_cons, go_next, go_brk, go_cont, go_ret, cs_eq, cT_none, cT_some, cElt, cI_t, cI_f, bnd_ok, List.getElem?_cons_zero, List.getElem?_cons_succ, optR, isTY, truthy, cmpOp, view, biOp, eqOk_int, eqOk_str, eqOk_bl, eqT_int, eqT_str, if_true, if_false, decide_true, decide_false, Bool.not_true, Bool.not_false, Bool.false_eq_true, id, sliceOf, item, atI_zero, binOp, newList, lstOf, Option.bind, Bool.true_and, Bool.and_true, Bool.false_and, Bool.and_false, Bool.or_true, Bool.true_or, Bool.false_or, Bool.or_false, Option.map, List.set_cons_zero, List.set_cons_succ, MG.asg, MG.asgs, setSlots, Mi.wipe, e1, ih, hb]
                have k1 := eqOk_nilL (isF_data (n := n) (h := h) hdd)
                have k2 := isF_nil (n := n) (h := h) (xs := (y :: ys).drop 1)
                cases y with
                | str s =>
                  have c1 : ∀ S, callN G gv 0 (d + (n + 1) + 1) 15 [.str s, .int 1, .bl false] S = .ok (.bl (isS 1 s false)) S := fun S => c_isS (d + (n + 1)) 1 s false S
                  cases h4 : isS 1 s false <;> simp only [bAnd_t, bAnd_f, bAnd_b, bAnd_c, bOr_t, bOr_f, bOr_b, bIf_t, bIf_f, bndF_ok, bndF_err, e_var, e_int, e_str, e_bl, e_non, e_glob, e_tup, e_lst, e_bin, e_neg, e_not, e_and, e_or, e_cmp, e_chain, e_ife, e_call, e_bi, e_isi, e_mt, e_sub, e_slice, e_rev, e_rng, es_nil, es_cons, eo_none, eo_some, eT, x_asg, x_par, x_expr, x_ret, x_retN, x_if, x_brk, x_cont, x_pass, xs_nil, xs_cons, go_next, go_brk, go_cont, go_ret, cs_eq, cT_none, cT_some, cElt, cI_t, cI_f, bnd_ok, List.getElem?_cons_zero, List.getElem?_cons_succ, optR, isTY, truthy, cmpOp, view, biOp, eqOk_int, eqOk_str, eqOk_bl, eqT_int, eqT_str, if_true, if_false, decide_true, decide_false, Bool.not_true, Bool.not_false, Bool.false_eq_true, id, sliceOf, item, atI_zero, binOp, newList, lstOf, Option.bind, Bool.true_and, Bool.and_true, Bool.false_and, Bool.and_false, Bool.or_true, Bool.true_or, Bool.false_or, Bool.or_false, Option.map, List.set_cons_zero, List.set_cons_succ, MG.asg, MG.asgs, setSlots, b__law_is, isB, h1, h2, h3, c1, h4, hc, k1, k2, eqT_nilL, List.headD_cons, strB]
                | scr _ => simp [T.data] at hdy
                | ref _ => simp [T.data] at hdy
                | _ => simp only [bAnd_t, bAnd_f, bAnd_b, bAnd_c, bOr_t, bOr_f, bOr_b, bIf_t, bIf_f, bndF_ok, bndF_err, e_var, e_int, e_str, e_bl, e_non, e_glob, e_tup, e_lst, e_bin, e_neg, e_not, e_and, e_or, e_cmp, e_chain, e_ife, e_call, e_bi, e_isi, e_mt, e_sub, e_slice, e_rev, e_rng, es_nil, es_cons, eo_none, eo_some, eT, x_asg, x_par, x_expr, x_ret, x_retN, x_if, x_brk, x_cont, x_pass, xs_nil, xs_cons, go_next, go_brk, go_cont, go_ret, cs_eq, cT_none, cT_some, cElt, cI_t, cI_f, bnd_ok, List.getElem?_cons_zero, List.getElem?_cons_succ, optR, isTY, truthy, cmpOp, view, biOp, eqOk_int, eqOk_str, eqOk_bl, eqT_int, eqT_str, if_true, if_false, decide_true, decide_false, Bool.not_true, Bool.not_false, Bool.false_eq_true, id, sliceOf, item, atI_zero, binOp, newList, lstOf, Option.bind, Bool.true_and, Bool.and_true, Bool.false_and, Bool.and_false, Bool.or_true, Bool.true_or, Bool.false_or, Bool.or_false, Option.map, List.set_cons_zero, List.set_cons_succ, MG.asg, MG.asgs, setSlots, b__law_is, isB, h1, h2, h3, List.headD_cons, strB]
    exact call_ret (fd := d__law_is.fd) rfl rfl he
  | n, .non, h, d, S, ht => by
    have he : execs (C (d + n + 1)) b__law_is [some .non, some (.int n), some (.bl h), none, none] S = .ok (.ret (.bl (isB n .non h)), [some .non, some (.int n), some (.bl h), none, none]) S := by
      cases n <;> simp only [bAnd_t, bAnd_f, bAnd_b, bAnd_c, bOr_t, bOr_f, bOr_b, bIf_t, bIf_f, bndF_ok, bndF_err, e_var, e_int, e_str, e_bl, e_non, e_glob, e_tup, e_lst, e_bin, e_neg, e_not, e_and, e_or, e_cmp, e_chain, e_ife, e_call, e_bi, e_isi, e_mt, e_sub, e_slice, e_rev, e_rng, es_nil, es_cons, eo_none, eo_some, eT, x_asg, x_par, x_expr, x_ret, x_retN, x_if, x_brk, x_cont, x_pass, xs_nil, xs_cons, go_next, go_brk, go_cont, go_ret, cs_eq, cT_none, cT_some, cElt, cI_t, cI_f, bnd_ok, List.getElem?_cons_zero, List.getElem?_cons_succ, optR, isTY, truthy, cmpOp, view, biOp, eqOk_int, eqOk_str, eqOk_bl, eqT_int, eqT_str, if_true, if_false, decide_true, decide_false, Bool.not_true, Bool.not_false, Bool.false_eq_true, id, sliceOf, item, atI_zero, binOp, newList, lstOf, Option.bind, Bool.true_and, Bool.and_true, Bool.false_and, Bool.and_false, Bool.or_true, Bool.true_or, Bool.false_or, Bool.or_false, Option.map, List.set_cons_zero, List.set_cons_succ, MG.asg, MG.asgs, setSlots, b__law_is, isB]
    exact call_ret (fd := d__law_is.fd) rfl rfl he
  | n, .bl b, h, d, S, ht => by
    have he : execs (C (d + n + 1)) b__law_is [some (.bl b), some (.int n), some (.bl h), none, none] S = .ok (.ret (.bl (isB n (.bl b) h)), [some (.bl b), some (.int n), some (.bl h), none, none]) S := by
      cases n <;> simp only [bAnd_t, bAnd_f, bAnd_b, bAnd_c, bOr_t, bOr_f, bOr_b, bIf_t, bIf_f, bndF_ok, bndF_err, e_var, e_int, e_str, e_bl, e_non, e_glob, e_tup, e_lst, e_bin, e_neg, e_not, e_and, e_or, e_cmp, e_chain, e_ife, e_call, e_bi, e_isi, e_mt, e_sub, e_slice, e_rev, e_rng, es_nil, es_cons, eo_none, eo_some, eT, x_asg, x_par, x_expr, x_ret, x_retN, x_if, x_brk, x_cont, x_pass, xs_nil, xs_cons, go_next, go_brk, go_cont, go_ret, cs_eq, cT_none, cT_some, cElt, cI_t, cI_f, bnd_ok, List.getElem?_cons_zero, List.getElem?_cons_succ, optR, isTY, truthy, cmpOp, view, biOp, eqOk_int, eqOk_str, eqOk_bl, eqT_int, eqT_str, if_true, if_false, decide_true, decide_false, Bool.not_true, Bool.not_false, Bool.false_eq_true, id, sliceOf, item, atI_zero, binOp, newList, lstOf, Option.bind, Bool.true_and, Bool.and_true, Bool.false_and, Bool.and_false, Bool.or_true, Bool.true_or, Bool.false_or, Bool.or_false, Option.map, List.set_cons_zero, List.set_cons_succ, MG.asg, MG.asgs, setSlots, b__law_is, isB]
    exact call_ret (fd := d__law_is.fd) rfl rfl he
  | n, .int b, h, d, S, ht => by
    have he : execs (C (d + n + 1)) b__law_is [some (.int b), some (.int n), some (.bl h), none, none] S = .ok (.ret (.bl (isB n (.int b) h)), [some (.int b), some (.int n), some (.bl h), none, none]) S := by
      cases n <;> simp only [bAnd_t, bAnd_f, bAnd_b, bAnd_c, bOr_t, bOr_f, bOr_b, bIf_t, bIf_f, bndF_ok, bndF_err, e_var, e_int, e_str, e_bl, e_non, e_glob, e_tup, e_lst, e_bin, e_neg, e_not, e_and, e_or, e_cmp, e_chain, e_ife, e_call, e_bi, e_isi, e_mt, e_sub, e_slice, e_rev, e_rng, es_nil, es_cons, eo_none, eo_some, eT, x_asg, x_par, x_expr, x_ret, x_retN, x_if, x_brk, x_cont, x_pass, xs_nil, xs_cons, go_next, go_brk, go_cont, go_ret, cs_eq, cT_none, cT_some, cElt, cI_t, cI_f, bnd_ok, List.getElem?_cons_zero, List.getElem?_cons_succ, optR, isTY, truthy, cmpOp, view, biOp, eqOk_int, eqOk_str, eqOk_bl, eqT_int, eqT_str, if_true, if_false, decide_true, decide_false, Bool.not_true, Bool.not_false, Bool.false_eq_true, id, sliceOf, item, atI_zero, binOp, newList, lstOf, Option.bind, Bool.true_and, Bool.and_true, Bool.false_and, Bool.and_false, Bool.or_true, Bool.true_or, Bool.false_or, Bool.or_false, Option.map, List.set_cons_zero, List.set_cons_succ, MG.asg, MG.asgs, setSlots, b__law_is, isB]
    exact call_ret (fd := d__law_is.fd) rfl rfl he
  | n, .lst b, h, d, S, ht => by
    have he : execs (C (d + n + 1)) b__law_is [some (.lst b), some (.int n), some (.bl h), none, none] S = .ok (.ret (.bl (isB n (.lst b) h)), [some (.lst b), some (.int n), some (.bl h), none, none]) S := by
      cases n <;> simp only [bAnd_t, bAnd_f, bAnd_b, bAnd_c, bOr_t, bOr_f, bOr_b, bIf_t, bIf_f, bndF_ok, bndF_err, e_var, e_int, e_str, e_bl, e_non, e_glob, e_tup, e_lst, e_bin, e_neg, e_not, e_and, e_or, e_cmp, e_chain, e_ife, e_call, e_bi, e_isi, e_mt, e_sub, e_slice, e_rev, e_rng, es_nil, es_cons, eo_none, eo_some, eT, x_asg, x_par, x_expr, x_ret, x_retN, x_if, x_brk, x_cont, x_pass, xs_nil, xs_cons, go_next, go_brk, go_cont, go_ret, cs_eq, cT_none, cT_some, cElt, cI_t, cI_f, bnd_ok, List.getElem?_cons_zero, List.getElem?_cons_succ, optR, isTY, truthy, cmpOp, view, biOp, eqOk_int, eqOk_str, eqOk_bl, eqT_int, eqT_str, if_true, if_false, decide_true, decide_false, Bool.not_true, Bool.not_false, Bool.false_eq_true, id, sliceOf, item, atI_zero, binOp, newList, lstOf, Option.bind, Bool.true_and, Bool.and_true, Bool.false_and, Bool.and_false, Bool.or_true, Bool.true_or, Bool.false_or, Bool.or_false, Option.map, List.set_cons_zero, List.set_cons_succ, MG.asg, MG.asgs, setSlots, b__law_is, isB]
    exact call_ret (fd := d__law_is.fd) rfl rfl he
  | n, .scr _, h, d, S, ht => by simp [T.data] at ht
  | n, .ref _, h, d, S, ht => by simp [T.data] at ht

/-! ### both looks are one -/
theorem small_ok : ∀ k : Fin 128, let_ (Char.ofNat k.1) = goodC (Char.ofNat k.1) := by decide +kernel
theorem letters_small : ∀ x ∈ "abcdefghijklmnopqrstuvwxyz".toList, x.toNat < 128 := by decide +kernel
theorem let_good (c : Char) : let_ c = goodC c := by
  by_cases hc : c.toNat < 128
  · have := small_ok ⟨c.toNat, hc⟩
    simp only [Char.ofNat_toNat] at this
    exact this
  · have h1 : let_ c = false := decide_eq_false fun h => hc (letters_small c h)
    have h2 : goodC c = false := by
      unfold goodC
      have : decide (c ≤ 'z') = false := decide_eq_false fun h => by
        rw [Char.le_def, UInt32.le_iff_toNat_le] at h
        have h3 : c.toNat ≤ 122 := h
        omega
      rw [this, Bool.and_false]
    rw [h1, h2]
theorem name_good (s : List Char) : s.all let_ = s.all goodC := by
  induction s with
  | nil => rfl
  | cons c r ih => rw [List.all_cons, List.all_cons, ih, let_good]
theorem q_bad {s : List Char} (h : (s.take 1 == ['?']) = true) : s.all goodC = false := by
  cases s with
  | nil => cases h
  | cons c r =>
    have e : c = '?' := by
      have := eq_of_beq h
      simpa using this
    subst e
    rw [List.all_cons]
    have : goodC '?' = false := by decide
    rw [this, Bool.false_and]
theorem name_is {n : Nat} {s : List Char} (hn : 0 < n) : nameB s 3 = (decide ((0 : Int) < s.length) && decide ((s.length : Int) < 4) && decide ((0 : Int) < n) && s.all goodC) := by
  unfold nameB
  rw [name_good]
  have e1 : decide ((1 : Int) ≤ s.length) = decide ((0 : Int) < s.length) := by congr 1
  have e2 : decide ((s.length : Int) ≤ 3) = decide ((s.length : Int) < 4) := decide_eq_decide.mpr (by omega)
  have e3 : decide ((0 : Int) < n) = true := decide_eq_true (by omega)
  rw [e1, e2, e3, Bool.and_true]
theorem isS_name {s : List Char} : isS 1 s false = nameB s 3 := by
  rw [name_is (n := 1) (by decide)]
  unfold isS
  rw [Bool.and_false, if_neg (by decide)]
theorem isS_pat {n : Nat} {s : List Char} {h : Bool} (hn : 0 < n) : isS n s h = (nameB s 3 || (h && holeB s)) := by
  rw [name_is hn]
  unfold isS holeB nameB
  have e3 : decide ((0 : Int) < n) = true := decide_eq_true (by omega)
  cases hq : (s.take 1 == ['?']) with
  | false => simp
  | true =>
    rw [q_bad hq]
    cases h with
    | false => simp
    | true =>
      rw [name_good, e3]
      have hl : (s.drop 1).length = s.length - 1 := List.length_drop
      have hp : 1 ≤ s.length := by
        cases s with
        | nil => cases hq
        | cons c r => simp
      have e1 : decide ((1 : Int) ≤ (s.drop 1).length) = decide ((1 : Int) < s.length) := decide_eq_decide.mpr (by rw [hl]; omega)
      have e2 : decide (((s.drop 1).length : Int) ≤ 2) = decide ((s.length : Int) < 4) := decide_eq_decide.mpr (by rw [hl]; omega)
      rw [e1, e2]
      simp
theorem pat_is : ∀ (n : Nat) (t : T) (h : Bool), patB n t h = isB n t h
  | 0, t, h => by
    cases t with
    | str s =>
      show false = isS 0 s h
      unfold isS
      have e3 : decide ((0 : Int) < ((0 : Nat) : Int)) = false := rfl
      rw [e3]
      simp
    | _ => rfl
  | n + 1, t, h => by
    cases t with
    | str s => exact (isS_pat (Nat.succ_pos n)).symm
    | tup xs =>
      show (decide (2 ≤ (xs.length : Int)) && decide ((xs.length : Int) ≤ 4) && strB (fun s => nameB s 3) (xs.headD .non) && (xs.drop 1).all fun x => patB n x h) =
        (decide ((1 : Int) < xs.length) && decide ((xs.length : Int) < 5) && !decide (((n + 1 : Nat) : Int) < 2) && strB (fun s => isS 1 s false) (xs.headD .non) && (xs.drop 1).all fun x => isB n x h)
      have e1 : decide ((2 : Int) ≤ xs.length) = decide ((1 : Int) < xs.length) := by congr 1
      have e2 : decide ((xs.length : Int) ≤ 4) = decide ((xs.length : Int) < 5) := decide_eq_decide.mpr (by omega)
      have e4 : (strB (fun s => isS 1 s false) (xs.headD .non)) = strB (fun s => nameB s 3) (xs.headD .non) := by
        cases xs.headD .non <;> first | rfl | exact isS_name
      have e5 : (xs.drop 1).all (fun x => patB n x h) = (xs.drop 1).all fun x => isB n x h := by
        congr 1
        funext x
        exact pat_is n x h
      rw [e1, e2, e4, e5]
      cases n with
      | succ n =>
        have e3 : decide (((n + 1 + 1 : Nat) : Int) < 2) = false := decide_eq_false (by omega)
        rw [e3]
        simp
      | zero =>
        cases h1 : decide ((1 : Int) < xs.length) with
        | false => simp
        | true =>
          match xs, h1 with
          | x :: y :: r, _ =>
            have e6 : isB 0 y h = false := by rw [← pat_is 0 y h]; rfl
            simp [e6]
    | _ => rfl
end Lk01
namespace Lk01
open Mi
def mixZ (c p m : Int) : Int := c * 48271 % p * (c * 48271 % p + 7) % p % m
theorem c_mix (d : Nat) (c p m : Int) (S : Store) (hp : 0 < p) (hp2 : p < 2 ^ 63) (hm : 0 < m) : cl (d + 1) 6 [.int c, .int p, .int m] S = .ok (.int (mixZ c p m)) S := by
  have k1 : (c.natAbs < 2 ^ 64 ∨ (48271 : Int).natAbs < 2 ^ 64) = True := eq_true (.inr (by decide))
  have b0 := Int.emod_nonneg (c * 48271) (show p ≠ 0 by omega)
  have b1 := Int.emod_lt_of_pos (c * 48271) hp
  have k2 : ((c * 48271 % p).natAbs < 2 ^ 64 ∨ (c * 48271 % p + 7).natAbs < 2 ^ 64) = True := eq_true (.inl (by omega))
  have he : execs (C d) b__law_mix [some (.int c), some (.int p), some (.int m), none] S = .ok (.ret (.int (mixZ c p m)), [some (.int c), some (.int p), some (.int m), some (.int (c * 48271 % p))]) S := by
    unfold mixZ
    simp only [bAnd_t, bAnd_f, bAnd_b, bAnd_c, bOr_t, bOr_f, bOr_b, bIf_t, bIf_f, bndF_ok, bndF_err, e_var, e_int, e_str, e_bl, e_non, e_glob, e_tup, e_lst, e_bin, e_neg, e_not, e_and, e_or, e_cmp, e_chain, e_ife, e_call, e_bi, e_isi, e_mt, e_sub, e_slice, e_rev, e_rng, es_nil, es_cons, eo_none, eo_some, eT, x_asg, x_par, x_expr, x_ret, x_retN, x_if, x_brk, x_cont, x_pass, xs_nil, xs_cons, go_next, go_brk, go_cont, go_ret, cs_eq, cT_none, cT_some, cElt, cI_t, cI_f, bnd_ok, List.getElem?_cons_zero, List.getElem?_cons_succ, optR, isTY, truthy, cmpOp, view, biOp, eqOk_int, eqOk_str, eqOk_bl, eqT_int, eqT_str, if_true, if_false, decide_true, decide_false, Bool.not_true, Bool.not_false, Bool.false_eq_true, id, sliceOf, item, atI_zero, binOp, newList, lstOf, Option.bind, Bool.true_and, Bool.and_true, Bool.false_and, Bool.and_false, Bool.or_true, Bool.true_or, Bool.false_or, Bool.or_false, Option.map, List.set_cons_zero, List.set_cons_succ, MG.asg, MG.asgs, setSlots, b__law_mix, k1, k2, hp, hm]
  exact call_ret (fd := d__law_mix.fd) rfl rfl he
theorem mix_lo {c p m : Int} (hm : 0 < m) : 0 ≤ mixZ c p m := Int.emod_nonneg _ (by omega)
theorem mix_hi {c p m : Int} (hm : 0 < m) : mixZ c p m < m := Int.emod_lt_of_pos _ hm
theorem c_cell (d : Nat) (ns : List Int) (k : Nat) (S : Store) : ∃ z : Int, ∀ S, cl (d + 1) 5 [.scr ns, .int k] S = .ok (.int z) S := by
  cases h : decide ((k : Int) < ns.length) with
  | false =>
    refine ⟨0, fun S => ?_⟩
    have he : execs (C d) b__law_cell [some (.scr ns), some (.int k)] S = .ok (.ret (.int 0), [some (.scr ns), some (.int k)]) S := by
      simp only [bAnd_t, bAnd_f, bAnd_b, bAnd_c, bOr_t, bOr_f, bOr_b, bIf_t, bIf_f, bndF_ok, bndF_err, e_var, e_int, e_str, e_bl, e_non, e_glob, e_tup, e_lst, e_bin, e_neg, e_not, e_and, e_or, e_cmp, e_chain, e_ife, e_call, e_bi, e_isi, e_mt, e_sub, e_slice, e_rev, e_rng, es_nil, es_cons, eo_none, eo_some, eT, x_asg, x_par, x_expr, x_ret, x_retN, x_if, x_brk, x_cont, x_pass, xs_nil, xs_cons, go_next, go_brk, go_cont, go_ret, cs_eq, cT_none, cT_some, cElt, cI_t, cI_f, bnd_ok, List.getElem?_cons_zero, List.getElem?_cons_succ, optR, isTY, truthy, cmpOp, view, biOp, eqOk_int, eqOk_str, eqOk_bl, eqT_int, eqT_str, if_true, if_false, decide_true, decide_false, Bool.not_true, Bool.not_false, Bool.false_eq_true, id, sliceOf, item, atI_zero, binOp, newList, lstOf, Option.bind, Bool.true_and, Bool.and_true, Bool.false_and, Bool.and_false, Bool.or_true, Bool.true_or, Bool.false_or, Bool.or_false, Option.map, List.set_cons_zero, List.set_cons_succ, MG.asg, MG.asgs, setSlots, b__law_cell, h]
    exact call_ret (fd := d__law_cell.fd) rfl rfl he
  | true =>
    obtain ⟨z, hz, _⟩ := atI_some (xs := ns) (i := (k : Int)) (by omega) (of_decide_eq_true h)
    refine ⟨z, fun S => ?_⟩
    have he : execs (C d) b__law_cell [some (.scr ns), some (.int k)] S = .ok (.ret (.int z), [some (.scr ns), some (.int k)]) S := by
      simp only [bAnd_t, bAnd_f, bAnd_b, bAnd_c, bOr_t, bOr_f, bOr_b, bIf_t, bIf_f, bndF_ok, bndF_err, e_var, e_int, e_str, e_bl, e_non, e_glob, e_tup, e_lst, e_bin, e_neg, e_not, e_and, e_or, e_cmp, e_chain, e_ife, e_call, e_bi, e_isi, e_mt, e_sub, e_slice, e_rev, e_rng, es_nil, es_cons, eo_none, eo_some, eT, x_asg, x_par, x_expr, x_ret, x_retN, x_if, x_brk, x_cont, x_pass, xs_nil, xs_cons, go_next, go_brk, go_cont, go_ret, cs_eq, cT_none, cT_some, cElt, cI_t, cI_f, bnd_ok, List.getElem?_cons_zero, List.getElem?_cons_succ, optR, isTY, truthy, cmpOp, view, biOp, eqOk_int, eqOk_str, eqOk_bl, eqT_int, eqT_str, if_true, if_false, decide_true, decide_false, Bool.not_true, Bool.not_false, Bool.false_eq_true, id, sliceOf, item, atI_zero, binOp, newList, lstOf, Option.bind, Bool.true_and, Bool.and_true, Bool.false_and, Bool.and_false, Bool.or_true, Bool.true_or, Bool.false_or, Bool.or_false, Option.map, List.set_cons_zero, List.set_cons_succ, MG.asg, MG.asgs, setSlots, b__law_cell, h, hz]
    exact call_ret (fd := d__law_cell.fd) rfl rfl he

def okT : Nat → T → Prop
  | _, .str s => s.length ≤ 3 ∧ s.all (fun c => decide (c.toNat < 128)) = true
  | n + 1, .tup xs => 2 ≤ xs.length ∧ xs.length ≤ 4 ∧ ∀ x ∈ xs, okT n x
  | _, _ => False
theorem okT_str {n : Nat} {s : List Char} (h : s.length ≤ 3 ∧ s.all (fun c => decide (c.toNat < 128)) = true) : okT n (.str s) := by cases n <;> exact h
theorem okT_up : ∀ {n : Nat} {t : T}, okT n t → okT (n + 1) t
  | 0, .str s, h => h
  | n + 1, .str s, h => h
  | n + 1, .tup xs, h => ⟨h.1, h.2.1, fun x hx => okT_up (h.2.2 x hx)⟩
theorem okT_data : ∀ {n : Nat} {t : T}, okT n t → t.data = true
  | 0, .str s, h => rfl
  | n + 1, .str s, h => rfl
  | n + 1, .tup xs, h => by
    simp only [T.data]
    exact datas_iff.mpr fun x hx => okT_data (h.2.2 x hx)
theorem pick_str {xs : List T} (h : ∀ x ∈ xs, ∃ s : List Char, x = .str s ∧ s.length ≤ 3 ∧ s.all (fun c => decide (c.toNat < 128)) = true) {i : Int} (h0 : 0 ≤ i) (h1 : i < xs.length) :
    ∃ s : List Char, L2.atI xs i = some (.str s) ∧ s.length ≤ 3 ∧ s.all (fun c => decide (c.toNat < 128)) = true := by
  obtain ⟨x, hx, hm⟩ := atI_some h0 h1
  obtain ⟨s, rfl, q⟩ := h x hm
  exact ⟨s, hx, q⟩
theorem c_leaf (d : Nat) (c : Int) (h : Bool) : ∃ s : List Char, (s.length ≤ 3 ∧ s.all (fun c => decide (c.toNat < 128)) = true) ∧ ∀ S, cl (d + 2) 7 [.int c, .bl h] S = .ok (.str s) S := by
  have m1 : ∀ S, callN G gv 0 (d + 1) 6 [.int c, .int 9973, .int 2] S = .ok (.int (mixZ c 9973 2)) S := fun S => c_mix d c 9973 2 S (by decide) (by decide) (by decide)
  have m2 : ∀ S, callN G gv 0 (d + 1) 6 [.int c, .int 9967, .int 4] S = .ok (.int (mixZ c 9967 4)) S := fun S => c_mix d c 9967 4 S (by decide) (by decide) (by decide)
  have m3 : ∀ S, callN G gv 0 (d + 1) 6 [.int c, .int 9949, .int 4] S = .ok (.int (mixZ c 9949 4)) S := fun S => c_mix d c 9949 4 S (by decide) (by decide) (by decide)
  obtain ⟨s2, a2, q2⟩ := pick_str (xs := [.str "?x".toList, .str "?y".toList, .str "?x".toList, .str "?ab".toList]) (by
    intro x hx
    simp only [List.mem_cons, List.not_mem_nil, or_false] at hx
    rcases hx with rfl | rfl | rfl | rfl <;> exact ⟨_, rfl, by decide, by decide⟩) (mix_lo (c := c) (p := 9967) (m := 4) (by decide)) (mix_hi (by decide))
  obtain ⟨s3, a3, q3⟩ := pick_str (xs := [.str "a".toList, .str "b".toList, .str "nil".toList, .str "a".toList]) (by
    intro x hx
    simp only [List.mem_cons, List.not_mem_nil, or_false] at hx
    rcases hx with rfl | rfl | rfl | rfl <;> exact ⟨_, rfl, by decide, by decide⟩) (mix_lo (c := c) (p := 9949) (m := 4) (by decide)) (mix_hi (by decide))
  cases hh : (h && (mixZ c 9973 2 == 0)) with
  | true =>
    refine ⟨s2, q2, fun S => ?_⟩
    have he : execs (C (d + 1)) b__law_leaf [some (.int c), some (.bl h)] S = .ok (.ret (.str s2), [some (.int c), some (.bl h)]) S := by
      simp only [bAnd_t, bAnd_f, bAnd_b, bAnd_c, bOr_t, bOr_f, bOr_b, bIf_t, bIf_f, bndF_ok, bndF_err, e_var, e_int, e_str, e_bl, e_non, e_glob, e_tup, e_lst, e_bin, e_neg, e_not, e_and, e_or, e_cmp, e_chain, e_ife, e_call, e_bi, e_isi, e_mt, e_sub, e_slice, e_rev, e_rng, es_nil, es_cons, eo_none, eo_some, eT, x_asg, x_par, x_expr, x_ret, x_retN, x_if, x_brk, x_cont, x_pass, xs_nil, xs_cons, go_next, go_brk, go_cont, go_ret, cs_eq, cT_none, cT_some, cElt, cI_t, cI_f, bnd_ok, List.getElem?_cons_zero, List.getElem?_cons_succ, optR, isTY, truthy, cmpOp, view, biOp, eqOk_int, eqOk_str, eqOk_bl, eqT_int, eqT_str, if_true, if_false, decide_true, decide_false, Bool.not_true, Bool.not_false, Bool.false_eq_true, id, sliceOf, item, atI_zero, binOp, newList, lstOf, Option.bind, Bool.true_and, Bool.and_true, Bool.false_and, Bool.and_false, Bool.or_true, Bool.true_or, Bool.false_or, Bool.or_false, Option.map, List.set_cons_zero, List.set_cons_succ, MG.asg, MG.asgs, setSlots, b__law_leaf, m1, m2, hh, a2]
    exact call_ret (fd := d__law_leaf.fd) rfl rfl he
  | false =>
    refine ⟨s3, q3, fun S => ?_⟩
    have he : execs (C (d + 1)) b__law_leaf [some (.int c), some (.bl h)] S = .ok (.ret (.str s3), [some (.int c), some (.bl h)]) S := by
      simp only [bAnd_t, bAnd_f, bAnd_b, bAnd_c, bOr_t, bOr_f, bOr_b, bIf_t, bIf_f, bndF_ok, bndF_err, e_var, e_int, e_str, e_bl, e_non, e_glob, e_tup, e_lst, e_bin, e_neg, e_not, e_and, e_or, e_cmp, e_chain, e_ife, e_call, e_bi, e_isi, e_mt, e_sub, e_slice, e_rev, e_rng, es_nil, es_cons, eo_none, eo_some, eT, x_asg, x_par, x_expr, x_ret, x_retN, x_if, x_brk, x_cont, x_pass, xs_nil, xs_cons, go_next, go_brk, go_cont, go_ret, cs_eq, cT_none, cT_some, cElt, cI_t, cI_f, bnd_ok, List.getElem?_cons_zero, List.getElem?_cons_succ, optR, isTY, truthy, cmpOp, view, biOp, eqOk_int, eqOk_str, eqOk_bl, eqT_int, eqT_str, if_true, if_false, decide_true, decide_false, Bool.not_true, Bool.not_false, Bool.false_eq_true, id, sliceOf, item, atI_zero, binOp, newList, lstOf, Option.bind, Bool.true_and, Bool.and_true, Bool.false_and, Bool.and_false, Bool.or_true, Bool.true_or, Bool.false_or, Bool.or_false, Option.map, List.set_cons_zero, List.set_cons_succ, MG.asg, MG.asgs, setSlots, b__law_leaf, m1, m3, hh, a3]
    exact call_ret (fd := d__law_leaf.fd) rfl rfl he
theorem c_tree : ∀ (n : Nat) (c : Int) (h : Bool) (d : Nat) (S : Store), ∃ t : T, okT n t ∧ cl (d + n + 3) 8 [.int c, .int ((n + 1 : Nat) : Int), .bl h] S = .ok t S := by
  intro n
  induction n with
  | zero =>
    intro c h d S
    obtain ⟨s, q, e⟩ := c_leaf d c h
    refine ⟨.str s, okT_str q, ?_⟩
    have m1 : ∀ S, callN G gv 0 (d + 2) 6 [.int c, .int 9941, .int 6] S = .ok (.int (mixZ c 9941 6)) S := fun S => c_mix (d + 1) c 9941 6 S (by decide) (by decide) (by decide)
    have e : ∀ S, callN G gv 0 (d + 2) 7 [.int c, .bl h] S = .ok (.str s) S := e
    have e0 : ((((0 + 1 : Nat) : Int)) == 1) = true := rfl
    have he : execs (C (d + 2)) b__law_tree [some (.int c), some (.int ((0 + 1 : Nat) : Int)), some (.bl h), none, none, none, none] S = .ok (.ret (.str s), [some (.int c), some (.int ((0 + 1 : Nat) : Int)), some (.bl h), some (.int (mixZ c 9941 6)), none, none, none]) S := by
      simp only [bAnd_t, bAnd_f, bAnd_b, bAnd_c, bOr_t, bOr_f, bOr_b, bIf_t, bIf_f, bndF_ok, bndF_err, e_var, e_int, e_str, e_bl, e_non, e_glob, e_tup, e_lst, e_bin, e_neg, e_not, e_and, e_or, e_cmp, e_chain, e_ife, e_call, e_bi, e_isi, e_mt, e_sub, e_slice, e_rev, e_rng, es_nil, es_cons, eo_none, eo_some, eT, x_asg, x_par, x_expr, x_ret, x_retN, x_if, x_brk, x_cont, x_pass, xs_nil, xs_cons, go_next, go_brk, go_cont, go_ret, cs_eq, cT_none, cT_some, cElt, cI_t, cI_f, bnd_ok, List.getElem?_cons_zero, List.getElem?_cons_succ, optR, isTY, truthy, cmpOp, view, biOp, eqOk_int, eqOk_str, eqOk_bl, eqT_int, eqT_str, if_true, if_false, decide_true, decide_false, Bool.not_true, Bool.not_false, Bool.false_eq_true, id, sliceOf, item, atI_zero, binOp, newList, lstOf, Option.bind, Bool.true_and, Bool.and_true, Bool.false_and, Bool.and_false, Bool.or_true, Bool.true_or, Bool.false_or, Bool.or_false, Option.map, List.set_cons_zero, List.set_cons_succ, MG.asg, MG.asgs, setSlots, b__law_tree, m1, e, e0]
    exact call_ret (fd := d__law_tree.fd) rfl rfl he
  | succ n ih =>
    intro c h d S
    have m1 : ∀ S, callN G gv 0 (d + (n + 1) + 2) 6 [.int c, .int 9941, .int 6] S = .ok (.int (mixZ c 9941 6)) S := fun S => c_mix (d + (n + 1) + 1) c 9941 6 S (by decide) (by decide) (by decide)
    have m2 : ∀ S, callN G gv 0 (d + (n + 1) + 2) 6 [.int c, .int 9931, .int 4] S = .ok (.int (mixZ c 9931 4)) S := fun S => c_mix (d + (n + 1) + 1) c 9931 4 S (by decide) (by decide) (by decide)
    have m3 : ∀ S, callN G gv 0 (d + (n + 1) + 2) 6 [.int c, .int 9929, .int 4] S = .ok (.int (mixZ c 9929 4)) S := fun S => c_mix (d + (n + 1) + 1) c 9929 4 S (by decide) (by decide) (by decide)
    have e0 : ((((n + 1 + 1 : Nat) : Int)) == 1) = false := by simp; omega
    cases hw : decide (mixZ c 9941 6 < 2) with
    | true =>
      obtain ⟨s, q, e⟩ := c_leaf (d + (n + 1)) c h
      refine ⟨.str s, okT_str q, ?_⟩
      have e : ∀ S, callN G gv 0 (d + (n + 1) + 2) 7 [.int c, .bl h] S = .ok (.str s) S := e
      have he : execs (C (d + (n + 1) + 2)) b__law_tree [some (.int c), some (.int ((n + 1 + 1 : Nat) : Int)), some (.bl h), none, none, none, none] S = .ok (.ret (.str s), [some (.int c), some (.int ((n + 1 + 1 : Nat) : Int)), some (.bl h), some (.int (mixZ c 9941 6)), none, none, none]) S := by
        simp only [bAnd_t, bAnd_f, bAnd_b, bAnd_c, bOr_t, bOr_f, bOr_b, bIf_t, bIf_f, bndF_ok, bndF_err, e_var, e_int, e_str, e_bl, e_non, e_glob, e_tup, e_lst, e_bin, e_neg, e_not, e_and, e_or, e_cmp, e_chain, e_ife, e_call, e_bi, e_isi, e_mt, e_sub, e_slice, e_rev, e_rng, es_nil, es_cons, eo_none, eo_some, eT, x_asg, x_par, x_expr, x_ret, x_retN, x_if, x_brk, x_cont, x_pass, xs_nil, xs_cons, go_next, go_brk, go_cont, go_ret, cs_eq, cT_none, cT_some, cElt, cI_t, cI_f, bnd_ok, List.getElem?_cons_zero, List.getElem?_cons_succ, optR, isTY, truthy, cmpOp, view, biOp, eqOk_int, eqOk_str, eqOk_bl, eqT_int, eqT_str, if_true, if_false, decide_true, decide_false, Bool.not_true, Bool.not_false, Bool.false_eq_true, id, sliceOf, item, atI_zero, binOp, newList, lstOf, Option.bind, Bool.true_and, Bool.and_true, Bool.false_and, Bool.and_false, Bool.or_true, Bool.true_or, Bool.false_or, Bool.or_false, Option.map, List.set_cons_zero, List.set_cons_succ, MG.asg, MG.asgs, setSlots, b__law_tree, m1, e, e0, hw]
      exact call_ret (fd := d__law_tree.fd) rfl rfl he
    | false =>
      obtain ⟨s4, a4, q4⟩ := pick_str (xs := [.str "f".toList, .str "g".toList, .str "f".toList, .str "not".toList]) (by
        intro x hx
        simp only [List.mem_cons, List.not_mem_nil, or_false] at hx
        rcases hx with rfl | rfl | rfl | rfl <;> exact ⟨_, rfl, by decide, by decide⟩) (mix_lo (c := c) (p := 9931) (m := 4) (by decide)) (mix_hi (by decide))
      obtain ⟨x, a5, hx⟩ := atI_some (xs := [T.int 1, .int 2, .int 2, .int 3]) (mix_lo (c := c) (p := 9929) (m := 4) (by decide)) (mix_hi (by decide))
      have hj : ∃ j : Nat, x = .int j ∧ 1 ≤ j ∧ j ≤ 3 ∧ rangeOf [.int (j : Int)] = some (.lst (rangeL 0 j 1)) := by
        simp only [List.mem_cons, List.not_mem_nil, or_false] at hx
        rcases hx with rfl | rfl | rfl | rfl
        · exact ⟨1, rfl, by decide, by decide, rfl⟩
        · exact ⟨2, rfl, by decide, by decide, rfl⟩
        · exact ⟨2, rfl, by decide, by decide, rfl⟩
        · exact ⟨3, rfl, by decide, by decide, rfl⟩
      obtain ⟨j, rfl, j1, j3, hr⟩ := hj
      have e1 : ((n + 1 + 1 : Nat) : Int) - 1 = ((n + 1 : Nat) : Int) := by omega
      have k1 : (c.natAbs < 2 ^ 64 ∨ (3 : Int).natAbs < 2 ^ 64) = True := eq_true (.inr (by decide))
      obtain ⟨env', S', ef, hS', g, k, eg, hg, hgo⟩ := forLoop_ix (body := forStp (C (d + (n + 1) + 2)) (.name 6) [.asg (.name 5) (.bin false .add (.var 5) (.tup [.call 8 [.bin false .add (.bin false .add (.bin false .mul (.var 0) (.int 3)) (.bin false .mul (.int 7) (.var 6))) (.int 1), .bin false .sub (.var 1) (.int 1), .var 2]]))])
        (ck := still none (rangeL 0 j 1)) (xs := rangeL 0 j 1) (k := 0) (env := [some (.int c), some (.int ((n + 1 + 1 : Nat) : Int)), some (.bl h), some (.int (mixZ c 9941 6)), some (.str s4), some (.tup [.str s4]), none]) (S := S)
        (fun i env S' => S' = S ∧ ∃ (g : List T) (k : Option T), env = [some (.int c), some (.int ((n + 1 + 1 : Nat) : Int)), some (.bl h), some (.int (mixZ c 9941 6)), some (.str s4), some (.tup g), k] ∧ g.length = 1 + i ∧ ∀ x ∈ g, okT n x)
        (fun _ _ _ _ => rfl) (fun i x hx env S' ⟨hS, g, k, he, hg, hgo⟩ => by
          subst hS he
          obtain ⟨hi, rfl⟩ := rangeL_ix hx
          obtain ⟨t, ht, et⟩ := ih (c * 3 + 7 * (0 + (i : Nat) * 1) + 1) h d S'
          have et : callN G gv 0 (d + (n + 1) + 2) 8 [.int (c * 3 + 7 * (0 + (i : Nat) * 1) + 1), .int ((n + 1 : Nat) : Int), .bl h] S' = .ok t S' := et
          have k2 : ((7 : Int).natAbs < 2 ^ 64 ∨ ((0 : Int) + (i : Nat) * 1).natAbs < 2 ^ 64) = True := eq_true (.inl (by decide))
          have k3 : (g.length + [t].length ≤ line) = True := eq_true (by
            have : line = 16777216 := rfl
            rw [List.length_singleton]
            omega)
          refine ⟨[some (.int c), some (.int ((n + 1 + 1 : Nat) : Int)), some (.bl h), some (.int (mixZ c 9941 6)), some (.str s4), some (.tup (g ++ [t])), some (.int (0 + (i : Nat) * 1))], S', ?_, rfl, g ++ [t], _, rfl, ?_, ?_⟩
          · simp only [bAnd_t, bAnd_f, bAnd_b, bAnd_c, bOr_t, bOr_f, bOr_b, bIf_t, bIf_f, bndF_ok, bndF_err, e_var, e_int, e_str, e_bl, e_non, e_glob, e_tup, e_lst, e_bin, e_neg, e_not, e_and, e_or, e_cmp, e_chain, e_ife, e_call, e_bi, e_isi, e_mt, e_sub, e_slice, e_rev, e_rng, es_nil, es_cons, eo_none, eo_some, eT, x_asg, x_par, x_expr, x_ret, x_retN, x_if, x_brk, x_cont, x_pass, xs_nil, xs_cons, go_next, go_brk, go_cont, go_ret, cs_eq, cT_none, cT_some, cElt, cI_t, cI_f, bnd_ok, List.getElem?_cons_zero, List.getElem?_cons_succ, optR, isTY, truthy, cmpOp, view, biOp, eqOk_int, eqOk_str, eqOk_bl, eqT_int, eqT_str, if_true, if_false, decide_true, decide_false, Bool.not_true, Bool.not_false, Bool.false_eq_true, id, sliceOf, item, atI_zero, binOp, newList, lstOf, Option.bind, Bool.true_and, Bool.and_true, Bool.false_and, Bool.and_false, Bool.or_true, Bool.true_or, Bool.false_or, Bool.or_false, Option.map, List.set_cons_zero, List.set_cons_succ, MG.asg, MG.asgs, setSlots, forStp, e1, k1, k2, et, k3]
          · rw [List.length_append, hg, List.length_singleton]; omega
          · intro y hy
            rcases List.mem_append.mp hy with hy | hy
            · exact hgo y hy
            · rw [List.mem_singleton.mp hy]; exact ht)
        ⟨rfl, [.str s4], none, rfl, rfl, fun x hx => by rw [List.mem_singleton.mp hx]; exact okT_str q4⟩
      subst hS' eg
      have hfor : exec (C (d + (n + 1) + 2)) (.for_ (.name 6) (.rangeI [.sub (.tup [.int 1, .int 2, .int 2, .int 3]) (.call 6 [.var 0, .int 9929, .int 4])]) [.asg (.name 5) (.bin false .add (.var 5) (.tup [.call 8 [.bin false .add (.bin false .add (.bin false .mul (.var 0) (.int 3)) (.bin false .mul (.int 7) (.var 6))) (.int 1), .bin false .sub (.var 1) (.int 1), .var 2]]))])
          [some (.int c), some (.int ((n + 1 + 1 : Nat) : Int)), some (.bl h), some (.int (mixZ c 9941 6)), some (.str s4), some (.tup [.str s4]), none] S' = .ok (.next, [some (.int c), some (.int ((n + 1 + 1 : Nat) : Int)), some (.bl h), some (.int (mixZ c 9941 6)), some (.str s4), some (.tup g), k]) S' := by
        rw [x_for, e_rng]
        simp only [bAnd_t, bAnd_f, bAnd_b, bAnd_c, bOr_t, bOr_f, bOr_b, bIf_t, bIf_f, bndF_ok, bndF_err, e_var, e_int, e_str, e_bl, e_non, e_glob, e_tup, e_lst, e_bin, e_neg, e_not, e_and, e_or, e_cmp, e_chain, e_ife, e_call, e_bi, e_isi, e_mt, e_sub, e_slice, e_rev, e_rng, es_nil, es_cons, eo_none, eo_some, eT, x_asg, x_par, x_expr, x_ret, x_retN, x_if, x_brk, x_cont, x_pass, xs_nil, xs_cons, go_next, go_brk, go_cont, go_ret, cs_eq, cT_none, cT_some, cElt, cI_t, cI_f, bnd_ok, List.getElem?_cons_zero, List.getElem?_cons_succ, optR, isTY, truthy, cmpOp, view, biOp, eqOk_int, eqOk_str, eqOk_bl, eqT_int, eqT_str, if_true, if_false, decide_true, decide_false, Bool.not_true, Bool.not_false, Bool.false_eq_true, id, sliceOf, item, atI_zero, binOp, newList, lstOf, Option.bind, Bool.true_and, Bool.and_true, Bool.false_and, Bool.and_false, Bool.or_true, Bool.true_or, Bool.false_or, Bool.or_false, Option.map, List.set_cons_zero, List.set_cons_succ, MG.asg, MG.asgs, setSlots, m3, a5, hr, itemsOf, ef]
      refine ⟨.tup g, ⟨by rw [hg, rangeL_len]; omega, by rw [hg, rangeL_len]; omega, hgo⟩, ?_⟩
      have he : execs (C (d + (n + 1) + 2)) b__law_tree [some (.int c), some (.int ((n + 1 + 1 : Nat) : Int)), some (.bl h), none, none, none, none] S' = .ok (.ret (.tup g), [some (.int c), some (.int ((n + 1 + 1 : Nat) : Int)), some (.bl h), some (.int (mixZ c 9941 6)), some (.str s4), some (.tup g), k]) S' := by
        simp only [bAnd_t, bAnd_f, bAnd_b, bAnd_c, bOr_t, bOr_f, bOr_b, bIf_t, bIf_f, bndF_ok, bndF_err, e_var, e_int, e_str, e_bl, e_non, e_glob, e_tup, e_lst, e_bin, e_neg, e_not, e_and, e_or, e_cmp, e_chain, e_ife, e_call, e_bi, e_isi, e_mt, e_sub, e_slice, e_rev, e_rng, es_nil, es_cons, eo_none, eo_some, eT, x_asg, x_par, x_expr, x_ret, x_retN, x_if, x_brk, x_cont, x_pass, xs_nil, xs_cons, go_next, go_brk, go_cont, go_ret, cs_eq, cT_none, cT_some, cElt, cI_t, cI_f, bnd_ok, List.getElem?_cons_zero, List.getElem?_cons_succ, optR, isTY, truthy, cmpOp, view, biOp, eqOk_int, eqOk_str, eqOk_bl, eqT_int, eqT_str, if_true, if_false, decide_true, decide_false, Bool.not_true, Bool.not_false, Bool.false_eq_true, id, sliceOf, item, atI_zero, binOp, newList, lstOf, Option.bind, Bool.true_and, Bool.and_true, Bool.false_and, Bool.and_false, Bool.or_true, Bool.true_or, Bool.false_or, Bool.or_false, Option.map, List.set_cons_zero, List.set_cons_succ, MG.asg, MG.asgs, setSlots, b__law_tree, m1, m2, e0, hw, a4, hfor]
      exact call_ret (fd := d__law_tree.fd) rfl rfl he
end Lk01
namespace Lk01
open Mi
def base : List T := [.non, .bl true, .bl false, .int 0, .int 1, .int (-1), .int 2, .int 7, .int 10, .int 1000, .str "".toList, .str "a".toList, .str "A".toList, .tup [], .tup [.str "a".toList], .lst [.int 1]]
theorem base_data : T.datas base = true := by decide
theorem datas_app {xs ys : List T} (h : T.datas xs = true) (k : T.datas ys = true) : T.datas (xs ++ ys) = true := datas_iff.mpr fun x hx => by
  rcases List.mem_append.mp hx with hx | hx
  · exact datas_iff.mp h x hx
  · exact datas_iff.mp k x hx
theorem datas_take {xs : List T} {n : Nat} (h : T.datas xs = true) : T.datas (xs.take n) = true := datas_iff.mpr fun x hx => datas_iff.mp h x (List.mem_of_mem_take hx)
theorem datas_rev {xs : List T} (h : T.datas xs = true) : T.datas xs.reverse = true := datas_iff.mpr fun x hx => datas_iff.mp h x (List.mem_reverse.mp hx)
def exS (s : List Char) : List T := [.str (s ++ "a".toList), .str (s.take (s.length - 1)), .str (s.map upperC), .str (s ++ " ".toList), .str (s ++ s), .lst [.str s], .str (s ++ s.take 1)]
def exT (xs : List T) : List T := [.lst xs, .tup (xs ++ xs.drop (xs.length - 1)), .tup (xs.take (xs.length - 1)), .tup xs.reverse, .tup (xs.drop 1), .tup [.tup xs]]
theorem exT_data {xs : List T} (h : T.datas xs = true) : T.datas (exT xs) = true := by
  simp only [exT, T.datas, T.data, h, datas_app h (datas_drop h), datas_take h, datas_rev h, datas_drop h, Bool.and_self]
/-- the last row: one of the odd ones -/
theorem odd_last (d : Nat) (c : Int) (ys : List T) (hy : T.datas ys = true) (hp : 0 < ys.length) (a0 a3 : Option T) (S : Store) : ∃ t : T, t.data = true ∧
    exec (C (d + 1)) (b__law_odd.getD 3 .pass) [a0, some (.int c), some (.lst ys), a3] S = .ok (.ret t, [a0, some (.int c), some (.lst ys), a3]) S := by
  obtain ⟨t, a, hm⟩ := atI_some (xs := ys) (mix_lo (c := c) (p := 9749) (m := (ys.length : Int)) (by omega)) (mix_hi (by omega))
  have m1 : ∀ S, callN G gv 0 (d + 1) 6 [.int c, .int 9749, .int ys.length] S = .ok (.int (mixZ c 9749 ys.length)) S := fun S => c_mix d c 9749 ys.length S (by decide) (by decide) (by omega)
  refine ⟨t, datas_iff.mp hy t hm, ?_⟩
  simp only [bAnd_t, bAnd_f, bAnd_b, bAnd_c, bOr_t, bOr_f, bOr_b, bIf_t, bIf_f, bndF_ok, bndF_err, e_var, e_int, e_str, e_bl, e_non, e_glob, e_tup, e_lst, e_bin, e_neg, e_not, e_and, e_or, e_cmp, e_chain, e_ife, e_call, e_bi, e_isi, e_mt, e_sub, e_slice, e_rev, e_rng, es_nil, es_cons, eo_none, eo_some, eT, x_asg, x_par, x_expr, x_ret, x_retN, x_if, x_brk, x_cont, x_pass, xs_nil, xs_cons, go_next, go_brk, go_cont, go_ret, cs_eq, cT_none, cT_some, cElt, cI_t, cI_f, bnd_ok, List.getElem?_cons_zero, List.getElem?_cons_succ, optR, isTY, truthy, cmpOp, view, biOp, eqOk_int, eqOk_str, eqOk_bl, eqT_int, eqT_str, if_true, if_false, decide_true, decide_false, Bool.not_true, Bool.not_false, Bool.false_eq_true, id, sliceOf, item, atI_zero, binOp, newList, lstOf, Option.bind, Bool.true_and, Bool.and_true, Bool.false_and, Bool.and_false, Bool.or_true, Bool.true_or, Bool.false_or, Bool.or_false, Option.map, List.set_cons_zero, List.set_cons_succ, MG.asg, MG.asgs, setSlots, b__law_odd, List.getD_cons_zero, List.getD_cons_succ, m1, a]
theorem c_odd : ∀ (n : Nat) (t : T) (c : Int) (d : Nat) (S : Store), okT n t → ∃ t' : T, t'.data = true ∧ cl (d + n + 3) 14 [t, .int c] S = .ok t' S := by
  intro n
  have strC : ∀ (s : List Char) (c : Int) (d : Nat) (S : Store), s.length ≤ 3 ∧ s.all (fun c => decide (c.toNat < 128)) = true → ∃ t' : T, t'.data = true ∧ cl (d + 3) 14 [.str s, .int c] S = .ok t' S := by
    intro s c d S ⟨hl, ha⟩
    have q1 : (s.length + "a".toList.length ≤ line) = True := eq_true (by have : line = 16777216 := rfl; have : "a".toList.length = 1 := rfl; omega)
    have q2 : (s.length + " ".toList.length ≤ line) = True := eq_true (by have : line = 16777216 := rfl; have : " ".toList.length = 1 := rfl; omega)
    have q3 : (s.length + (s.take 1).length ≤ line) = True := eq_true (by have : line = 16777216 := rfl; rw [List.length_take]; omega)
    have q4 : (s.length ≤ 1000) = True := eq_true (by omega)
    have e1 : cut s none (some (-1)) = s.take (s.length - 1) := cut_init
    have e2 : cut s none (some 1) = s.take 1 := cut_to (by decide)
    have up : ∀ S, mtOp .upper (.str s) [] S = .ok (.str (s.map upperC)) S := fun S => by
      show (if s.length ≤ 1000 ∧ s.all (fun c => decide (c.toNat < 128)) = true then _ else _) = _
      rw [if_pos ⟨by omega, ha⟩]
    have pre : ∀ S, mtPre .upper (.str s) S = true := fun _ => rfl
    obtain ⟨t, ht, h4⟩ := odd_last (d + 1) c (base ++ (exS s ++ exS s)) rfl (by rw [List.length_append]; have : base.length = 16 := rfl; omega) (some (.str s)) none S
    refine ⟨t, ht, ?_⟩
    have h1 : exec (C (d + 2)) (b__law_odd.getD 0 .pass) [some (.str s), some (.int c), none, none] S = .ok (.next, [some (.str s), some (.int c), none, none]) S := by
      simp only [bAnd_t, bAnd_f, bAnd_b, bAnd_c, bOr_t, bOr_f, bOr_b, bIf_t, bIf_f, bndF_ok, bndF_err, e_var, e_int, e_str, e_bl, e_non, e_glob, e_tup, e_lst, e_bin, e_neg, e_not, e_and, e_or, e_cmp, e_chain, e_ife, e_call, e_bi, e_isi, e_mt, e_sub, e_slice, e_rev, e_rng, es_nil, es_cons, eo_none, eo_some, eT, x_asg, x_par, x_expr, x_ret, x_retN, x_if, x_brk, x_cont, x_pass, xs_nil, xs_cons, go_next, go_brk, go_cont, go_ret, cs_eq, cT_none, cT_some, cElt, cI_t, cI_f, bnd_ok, List.getElem?_cons_zero, List.getElem?_cons_succ, optR, isTY, truthy, cmpOp, view, biOp, eqOk_int, eqOk_str, eqOk_bl, eqT_int, eqT_str, if_true, if_false, decide_true, decide_false, Bool.not_true, Bool.not_false, Bool.false_eq_true, id, sliceOf, item, atI_zero, binOp, newList, lstOf, Option.bind, Bool.true_and, Bool.and_true, Bool.false_and, Bool.and_false, Bool.or_true, Bool.true_or, Bool.false_or, Bool.or_false, Option.map, List.set_cons_zero, List.set_cons_succ, MG.asg, MG.asgs, setSlots, b__law_odd, List.getD_cons_zero, List.getD_cons_succ]
    have h2 : exec (C (d + 2)) (b__law_odd.getD 1 .pass) [some (.str s), some (.int c), none, none] S = .ok (.next, [some (.str s), some (.int c), some (.lst base), none]) S := by
      simp only [bAnd_t, bAnd_f, bAnd_b, bAnd_c, bOr_t, bOr_f, bOr_b, bIf_t, bIf_f, bndF_ok, bndF_err, e_var, e_int, e_str, e_bl, e_non, e_glob, e_tup, e_lst, e_bin, e_neg, e_not, e_and, e_or, e_cmp, e_chain, e_ife, e_call, e_bi, e_isi, e_mt, e_sub, e_slice, e_rev, e_rng, es_nil, es_cons, eo_none, eo_some, eT, x_asg, x_par, x_expr, x_ret, x_retN, x_if, x_brk, x_cont, x_pass, xs_nil, xs_cons, go_next, go_brk, go_cont, go_ret, cs_eq, cT_none, cT_some, cElt, cI_t, cI_f, bnd_ok, List.getElem?_cons_zero, List.getElem?_cons_succ, optR, isTY, truthy, cmpOp, view, biOp, eqOk_int, eqOk_str, eqOk_bl, eqT_int, eqT_str, if_true, if_false, decide_true, decide_false, Bool.not_true, Bool.not_false, Bool.false_eq_true, id, sliceOf, item, atI_zero, binOp, newList, lstOf, Option.bind, Bool.true_and, Bool.and_true, Bool.false_and, Bool.and_false, Bool.or_true, Bool.true_or, Bool.false_or, Bool.or_false, Option.map, List.set_cons_zero, List.set_cons_succ, MG.asg, MG.asgs, setSlots, b__law_odd, List.getD_cons_zero, List.getD_cons_succ, base]
    have h3 : exec (C (d + 2)) (b__law_odd.getD 2 .pass) [some (.str s), some (.int c), some (.lst base), none] S = .ok (.next, [some (.str s), some (.int c), some (.lst (base ++ (exS s ++ exS s))), none]) S := by
      have k1 : (([T.str (s ++ "a".toList), .str (s.take (s.length - 1)), .str (s.map upperC), .str (s ++ " ".toList), .str (s ++ s), .lst [.str s], .str (s ++ s.take 1)] : List T).length ≤ 1000) = True := eq_true (by show 7 ≤ 1000; decide)
      have k2 : (base.length + (([T.str (s ++ "a".toList), .str (s.take (s.length - 1)), .str (s.map upperC), .str (s ++ " ".toList), .str (s ++ s), .lst [.str s], .str (s ++ s.take 1)] : List T) ++ [T.str (s ++ "a".toList), .str (s.take (s.length - 1)), .str (s.map upperC), .str (s ++ " ".toList), .str (s ++ s), .lst [.str s], .str (s ++ s.take 1)]).length ≤ line) = True := eq_true (by show 16 + 14 ≤ line; decide)
      simp only [bAnd_t, bAnd_f, bAnd_b, bAnd_c, bOr_t, bOr_f, bOr_b, bIf_t, bIf_f, bndF_ok, bndF_err, e_var, e_int, e_str, e_bl, e_non, e_glob, e_tup, e_lst, e_bin, e_neg, e_not, e_and, e_or, e_cmp, e_chain, e_ife, e_call, e_bi, e_isi, e_mt, e_sub, e_slice, e_rev, e_rng, es_nil, es_cons, eo_none, eo_some, eT, x_asg, x_par, x_expr, x_ret, x_retN, x_if, x_brk, x_cont, x_pass, xs_nil, xs_cons, go_next, go_brk, go_cont, go_ret, cs_eq, cT_none, cT_some, cElt, cI_t, cI_f, bnd_ok, List.getElem?_cons_zero, List.getElem?_cons_succ, optR, isTY, truthy, cmpOp, view, biOp, eqOk_int, eqOk_str, eqOk_bl, eqT_int, eqT_str, if_true, if_false, decide_true, decide_false, Bool.not_true, Bool.not_false, Bool.false_eq_true, id, sliceOf, item, atI_zero, binOp, newList, lstOf, Option.bind, Bool.true_and, Bool.and_true, Bool.false_and, Bool.and_false, Bool.or_true, Bool.true_or, Bool.false_or, Bool.or_false, Option.map, List.set_cons_zero, List.set_cons_succ, MG.asg, MG.asgs, setSlots, b__law_odd, List.getD_cons_zero, List.getD_cons_succ, e_mt, pre, up, q1, q2, q3, q4, e1, e2, exS, k1, k2]
    have he : execs (C (d + 2)) b__law_odd [some (.str s), some (.int c), none, none] S = .ok (.ret t, [some (.str s), some (.int c), some (.lst (base ++ (exS s ++ exS s))), none]) S := by
      show execs (C (d + 2)) [b__law_odd.getD 0 .pass, b__law_odd.getD 1 .pass, b__law_odd.getD 2 .pass, b__law_odd.getD 3 .pass] _ _ = _
      rw [execs_next h1, execs_next h2, execs_next h3, execs_ret h4]
    exact call_ret (fd := d__law_odd.fd) rfl rfl he
  induction n with
  | zero =>
    intro t c d S ht
    cases t with
    | str s => exact strC s c d S ht
    | _ => exact ht.elim
  | succ n ih =>
    intro t c d S ht
    cases t with
    | str s => exact strC s c (d + (n + 1)) S ht
    | tup xs =>
      obtain ⟨l2, l4, hm⟩ := ht
      have hd : T.datas xs = true := datas_iff.mpr fun x hx => okT_data (hm x hx)
      have hll : line = 16777216 := rfl
      have m1 : ∀ S, callN G gv 0 (d + (n + 1) + 2) 6 [.int c, .int 9781, .int 5] S = .ok (.int (mixZ c 9781 5)) S := fun S => c_mix (d + (n + 1) + 1) c 9781 5 S (by decide) (by decide) (by decide)
      have m2 : ∀ S, callN G gv 0 (d + (n + 1) + 2) 6 [.int c, .int 9769, .int xs.length] S = .ok (.int (mixZ c 9769 xs.length)) S := fun S => c_mix (d + (n + 1) + 1) c 9769 xs.length S (by decide) (by decide) (by omega)
      have k0 := mix_lo (c := c) (p := 9769) (m := (xs.length : Int)) (by omega)
      have k9 := mix_hi (c := c) (p := 9769) (m := (xs.length : Int)) (by omega)
      have q0 : xs.isEmpty = false := by cases xs <;> simp_all
      have q1 := eqOk_nilT hd
      cases hg : decide (0 < mixZ c 9781 5) with
      | true =>
        generalize hk : mixZ c 9769 xs.length = k at m2 k0 k9
        obtain ⟨y, ay, hy⟩ := atI_some k0 k9
        obtain ⟨t1, hd1, e1⟩ := ih y (c + 31 * k + 7) d S (hm y hy)
        have e1 : callN G gv 0 (d + (n + 1) + 2) 14 [y, .int (c + 31 * k + 7)] S = .ok t1 S := e1
        have c1 : cut xs none (some k) = xs.take k.toNat := cut_to k0
        have c2 : cut xs (some (k + 1)) none = xs.drop (k + 1).toNat := cut_from (by omega)
        have k1 : ((31 : Int).natAbs < 2 ^ 64 ∨ k.natAbs < 2 ^ 64) = True := eq_true (.inl (by decide))
        have k2 : ((xs.take k.toNat).length + [t1].length ≤ line) = True := eq_true (by rw [List.length_take, List.length_singleton]; omega)
        have k3 : ((xs.take k.toNat ++ [t1]).length + (xs.drop (k + 1).toNat).length ≤ line) = True := eq_true (by rw [List.length_append, List.length_take, List.length_singleton, List.length_drop]; omega)
        refine ⟨.tup (xs.take k.toNat ++ [t1] ++ xs.drop (k + 1).toNat), ?_, ?_⟩
        · simp only [T.data]
          exact datas_app (datas_app (datas_take hd) (by simp [T.datas, hd1])) (datas_drop hd)
        · have h1 : exec (C (d + (n + 1) + 2)) (b__law_odd.getD 0 .pass) [some (.tup xs), some (.int c), none, none] S = .ok (.ret (.tup (xs.take k.toNat ++ [t1] ++ xs.drop (k + 1).toNat)), [some (.tup xs), some (.int c), none, some (.int k)]) S := by
            simp only [bAnd_t, bAnd_f, bAnd_b, bAnd_c, bOr_t, bOr_f, bOr_b, bIf_t, bIf_f, bndF_ok, bndF_err, e_var, e_int, e_str, e_bl, e_non, e_glob, e_tup, e_lst, e_bin, e_neg, e_not, e_and, e_or, e_cmp, e_chain, e_ife, e_call, e_bi, e_isi, e_mt, e_sub, e_slice, e_rev, e_rng, es_nil, es_cons, eo_none, eo_some, eT, x_asg, x_par, x_expr, x_ret, x_retN, x_if, x_brk, x_cont, x_pass, xs_nil, xs_cons, go_next, go_brk, go_cont, go_ret, cs_eq, cT_none, cT_some, cElt, cI_t, cI_f, bnd_ok, List.getElem?_cons_zero, List.getElem?_cons_succ, optR, isTY, truthy, cmpOp, view, biOp, eqOk_int, eqOk_str, eqOk_bl, eqT_int, eqT_str, if_true, if_false, decide_true, decide_false, Bool.not_true, Bool.not_false, Bool.false_eq_true, id, sliceOf, item, atI_zero, binOp, newList, lstOf, Option.bind, Bool.true_and, Bool.and_true, Bool.false_and, Bool.and_false, Bool.or_true, Bool.true_or, Bool.false_or, Bool.or_false, Option.map, List.set_cons_zero, List.set_cons_succ, MG.asg, MG.asgs, setSlots, b__law_odd, List.getD_cons_zero, List.getD_cons_succ, m1, m2, q0, q1, eqT_nilT, hg, ay, e1, c1, c2, k1, k2, k3]
          have he : execs (C (d + (n + 1) + 2)) b__law_odd [some (.tup xs), some (.int c), none, none] S = .ok (.ret (.tup (xs.take k.toNat ++ [t1] ++ xs.drop (k + 1).toNat)), [some (.tup xs), some (.int c), none, some (.int k)]) S := by
            show execs (C (d + (n + 1) + 2)) [b__law_odd.getD 0 .pass, b__law_odd.getD 1 .pass, b__law_odd.getD 2 .pass, b__law_odd.getD 3 .pass] _ _ = _
            rw [execs_ret h1]
          exact call_ret (fd := d__law_odd.fd) rfl rfl he
      | false =>
        have e1 : cut xs (some (-1)) none = xs.drop (xs.length - 1) := cut_last
        have e2 : cut xs none (some (-1)) = xs.take (xs.length - 1) := cut_init
        have e3 : cut xs (some 1) none = xs.drop 1 := cut_from (by decide)
        have r1 : ∀ S, revOf (.tup xs) S = some (.tup xs.reverse) := fun _ => rfl
        have r2 : ∀ S, seqOf S (.tup xs) = some xs := fun _ => rfl
        have r3 : (xs.length + (xs.drop (xs.length - 1)).length ≤ line) = True := eq_true (by rw [List.length_drop]; omega)
        have hxd : T.datas (base ++ (exT xs ++ exT xs)) = true := datas_app base_data (datas_app (exT_data hd) (exT_data hd))
        obtain ⟨t, ht, h4⟩ := odd_last (d + (n + 1) + 1) c (base ++ (exT xs ++ exT xs)) hxd (by rw [List.length_append]; have : base.length = 16 := rfl; omega) (some (.tup xs)) none S
        refine ⟨t, ht, ?_⟩
        have h1 : exec (C (d + (n + 1) + 2)) (b__law_odd.getD 0 .pass) [some (.tup xs), some (.int c), none, none] S = .ok (.next, [some (.tup xs), some (.int c), none, none]) S := by
          simp only [bAnd_t, bAnd_f, bAnd_b, bAnd_c, bOr_t, bOr_f, bOr_b, bIf_t, bIf_f, bndF_ok, bndF_err, e_var, e_int, e_str, e_bl, e_non, e_glob, e_tup, e_lst, e_bin, e_neg, e_not, e_and, e_or, e_cmp, e_chain, e_ife, e_call, e_bi, e_isi, e_mt, e_sub, e_slice, e_rev, e_rng, es_nil, es_cons, eo_none, eo_some, eT, x_asg, x_par, x_expr, x_ret, x_retN, x_if, x_brk, x_cont, x_pass, xs_nil, xs_cons, go_next, go_brk, go_cont, go_ret, cs_eq, cT_none, cT_some, cElt, cI_t, cI_f, bnd_ok, List.getElem?_cons_zero, List.getElem?_cons_succ, optR, isTY, truthy, cmpOp, view, biOp, eqOk_int, eqOk_str, eqOk_bl, eqT_int, eqT_str, if_true, if_false, decide_true, decide_false, Bool.not_true, Bool.not_false, Bool.false_eq_true, id, sliceOf, item, atI_zero, binOp, newList, lstOf, Option.bind, Bool.true_and, Bool.and_true, Bool.false_and, Bool.and_false, Bool.or_true, Bool.true_or, Bool.false_or, Bool.or_false, Option.map, List.set_cons_zero, List.set_cons_succ, MG.asg, MG.asgs, setSlots, b__law_odd, List.getD_cons_zero, List.getD_cons_succ, m1, q0, q1, eqT_nilT, hg]
        have h2 : exec (C (d + (n + 1) + 2)) (b__law_odd.getD 1 .pass) [some (.tup xs), some (.int c), none, none] S = .ok (.next, [some (.tup xs), some (.int c), some (.lst base), none]) S := by
          simp only [bAnd_t, bAnd_f, bAnd_b, bAnd_c, bOr_t, bOr_f, bOr_b, bIf_t, bIf_f, bndF_ok, bndF_err, e_var, e_int, e_str, e_bl, e_non, e_glob, e_tup, e_lst, e_bin, e_neg, e_not, e_and, e_or, e_cmp, e_chain, e_ife, e_call, e_bi, e_isi, e_mt, e_sub, e_slice, e_rev, e_rng, es_nil, es_cons, eo_none, eo_some, eT, x_asg, x_par, x_expr, x_ret, x_retN, x_if, x_brk, x_cont, x_pass, xs_nil, xs_cons, go_next, go_brk, go_cont, go_ret, cs_eq, cT_none, cT_some, cElt, cI_t, cI_f, bnd_ok, List.getElem?_cons_zero, List.getElem?_cons_succ, optR, isTY, truthy, cmpOp, view, biOp, eqOk_int, eqOk_str, eqOk_bl, eqT_int, eqT_str, if_true, if_false, decide_true, decide_false, Bool.not_true, Bool.not_false, Bool.false_eq_true, id, sliceOf, item, atI_zero, binOp, newList, lstOf, Option.bind, Bool.true_and, Bool.and_true, Bool.false_and, Bool.and_false, Bool.or_true, Bool.true_or, Bool.false_or, Bool.or_false, Option.map, List.set_cons_zero, List.set_cons_succ, MG.asg, MG.asgs, setSlots, b__law_odd, List.getD_cons_zero, List.getD_cons_succ, base]
        have h3 : exec (C (d + (n + 1) + 2)) (b__law_odd.getD 2 .pass) [some (.tup xs), some (.int c), some (.lst base), none] S = .ok (.next, [some (.tup xs), some (.int c), some (.lst (base ++ (exT xs ++ exT xs))), none]) S := by
          have k1 : (([T.lst xs, .tup (xs ++ xs.drop (xs.length - 1)), .tup (xs.take (xs.length - 1)), .tup xs.reverse, .tup (xs.drop 1), .tup [.tup xs]] : List T).length ≤ 1000) = True := eq_true (by show 6 ≤ 1000; decide)
          have k2 : (base.length + (([T.lst xs, .tup (xs ++ xs.drop (xs.length - 1)), .tup (xs.take (xs.length - 1)), .tup xs.reverse, .tup (xs.drop 1), .tup [.tup xs]] : List T) ++ [T.lst xs, .tup (xs ++ xs.drop (xs.length - 1)), .tup (xs.take (xs.length - 1)), .tup xs.reverse, .tup (xs.drop 1), .tup [.tup xs]]).length ≤ line) = True := eq_true (by show 16 + 12 ≤ line; decide)
          simp only [bAnd_t, bAnd_f, bAnd_b, bAnd_c, bOr_t, bOr_f, bOr_b, bIf_t, bIf_f, bndF_ok, bndF_err, e_var, e_int, e_str, e_bl, e_non, e_glob, e_tup, e_lst, e_bin, e_neg, e_not, e_and, e_or, e_cmp, e_chain, e_ife, e_call, e_bi, e_isi, e_mt, e_sub, e_slice, e_rev, e_rng, es_nil, es_cons, eo_none, eo_some, eT, x_asg, x_par, x_expr, x_ret, x_retN, x_if, x_brk, x_cont, x_pass, xs_nil, xs_cons, go_next, go_brk, go_cont, go_ret, cs_eq, cT_none, cT_some, cElt, cI_t, cI_f, bnd_ok, List.getElem?_cons_zero, List.getElem?_cons_succ, optR, isTY, truthy, cmpOp, view, biOp, eqOk_int, eqOk_str, eqOk_bl, eqT_int, eqT_str, if_true, if_false, decide_true, decide_false, Bool.not_true, Bool.not_false, Bool.false_eq_true, id, sliceOf, item, atI_zero, binOp, newList, lstOf, Option.bind, Bool.true_and, Bool.and_true, Bool.false_and, Bool.and_false, Bool.or_true, Bool.true_or, Bool.false_or, Bool.or_false, Option.map, List.set_cons_zero, List.set_cons_succ, MG.asg, MG.asgs, setSlots, b__law_odd, List.getD_cons_zero, List.getD_cons_succ, r1, r2, r3, e1, e2, e3, exT, k1, k2]
        have he : execs (C (d + (n + 1) + 2)) b__law_odd [some (.tup xs), some (.int c), none, none] S = .ok (.ret t, [some (.tup xs), some (.int c), some (.lst (base ++ (exT xs ++ exT xs))), none]) S := by
          show execs (C (d + (n + 1) + 2)) [b__law_odd.getD 0 .pass, b__law_odd.getD 1 .pass, b__law_odd.getD 2 .pass, b__law_odd.getD 3 .pass] _ _ = _
          rw [execs_next h1, execs_next h2, execs_next h3, execs_ret h4]
        exact call_ret (fd := d__law_odd.fd) rfl rfl he
    | _ => exact ht.elim
end Lk01
namespace Lk01
open Mi
def sL (i : Nat) : MS := b_law.getD i .pass
def oB : List MS := match sL 0 with | .for_ _ _ b => b | _ => []
def oS (i : Nat) : MS := oB.getD i .pass
def aB : List MS := match oS 7 with | .for_ _ _ b => b | _ => []
def cB : List MS := match oS 8 with | .for_ _ _ b => b | _ => []
def dB : List MS := match cB.getD 0 .pass with | .for_ _ _ b => b | _ => []
theorem b_law_eq : b_law = [sL 0, sL 1] := rfl
theorem sL0 : sL 0 = .for_ (.name 1) (.rangeI [.int 12]) oB := rfl
theorem oB_eq : oB = [oS 0, oS 1, oS 2, oS 3, oS 4, oS 5, oS 6, oS 7, oS 8] := rfl
theorem oS7 : oS 7 = .for_ (.name 4) (.rangeI [.int 16]) aB := rfl
theorem oS8 : oS 8 = .for_ (.name 5) (.var 3) cB := rfl
theorem cB_eq : cB = [.for_ (.tup [.name 8, .name 9]) (.tup [.tup [.call 3 [.var 5], .call 15 [.var 5, .int 5, .bl false]], .tup [.call 4 [.var 5], .call 15 [.var 5, .int 5, .bl true]]]) dB] := rfl

theorem addL {c : Cfg} {env : Env} {S : Store} {n : Nat} {xs ys : List T} {es : List ME} (h3 : env[3]? = some (some (.ref n))) (hn : S[n]? = some (.lst xs)) (he : evs c es env S = .ok ys S) (hl : xs.length + ys.length ≤ line) :
    exec c (.asg (.name 3) (.bin true .add (.var 3) (.lst false es))) env S = .ok (.next, env.set 3 (some (.ref S.length))) (S ++ [.lst (xs ++ ys)]) := by
  have e1 : binOp true .add (.ref n) (.lst ys) S = .ok (.ref S.length) (S ++ [.lst (xs ++ ys)]) := by
    have k : (xs.length + ys.length ≤ line) = True := eq_true hl
    simp only [binOp, view, hn, k, if_true, newList]
  rw [x_asg, e_bin, e_var, h3]
  simp only [bndF_ok]
  rw [e_lst, he]
  simp only [bndF_ok, newList, Bool.false_eq_true, if_false]
  rw [e1]
  rfl
theorem at_end {S : Store} {o : MO} : (S ++ [o])[S.length]? = some o := by
  rw [List.getElem?_append_right (Nat.le_refl _), Nat.sub_self]
  rfl

/-- one thing: both looks tell one -/
theorem look (D : Nat) (hD : ∃ d, D = d + 9) (ns : List Int) (a1 a2 a3 a4 a6 a7 a8 a9 : Option T) (t : T) (ht : t.data = true) (S : Store) :
    ∃ b8 b9, execs (C D) cB [some (.scr ns), a1, a2, a3, a4, some t, a6, a7, a8, a9] S = .ok (.next, [some (.scr ns), a1, a2, a3, a4, some t, a6, a7, b8, b9]) S := by
  obtain ⟨d, rfl⟩ := hD
  have c1 : ∀ S, callN G gv 0 (d + 9) 3 [t] S = .ok (.bl (isB 5 t false)) S := fun S => by rw [← pat_is]; exact c_is_term d t S ht
  have c2 : ∀ S, callN G gv 0 (d + 9) 4 [t] S = .ok (.bl (isB 5 t true)) S := fun S => by rw [← pat_is]; exact c_is_pattern d t S ht
  have c3 : ∀ S, callN G gv 0 (d + 9) 15 [t, .int 5, .bl false] S = .ok (.bl (isB 5 t false)) S := fun S => c_is 5 t false (d + 2) S ht
  have c4 : ∀ S, callN G gv 0 (d + 9) 15 [t, .int 5, .bl true] S = .ok (.bl (isB 5 t true)) S := fun S => c_is 5 t true (d + 2) S ht
  obtain ⟨env', S', e, b8, b9, e1, e2⟩ := forLoop_inv (body := forStp (C (d + 9)) (.tup [.name 8, .name 9]) dB) (ck := still none [.tup [.bl (isB 5 t false), .bl (isB 5 t false)], .tup [.bl (isB 5 t true), .bl (isB 5 t true)]])
    (xs := [.tup [.bl (isB 5 t false), .bl (isB 5 t false)], .tup [.bl (isB 5 t true), .bl (isB 5 t true)]]) (env := [some (.scr ns), a1, a2, a3, a4, some t, a6, a7, a8, a9]) (S := S)
    (fun env S' => ∃ b8 b9, env = [some (.scr ns), a1, a2, a3, a4, some t, a6, a7, b8, b9] ∧ S' = S) (fun _ _ _ => rfl) (fun x hx env S' ⟨b8, b9, he, hS⟩ => by
      subst he hS
      have hb : ∃ b, x = .tup [.bl b, .bl b] := by
        simp only [List.mem_cons, List.not_mem_nil, or_false] at hx
        rcases hx with rfl | rfl <;> exact ⟨_, rfl⟩
      obtain ⟨b, rfl⟩ := hb
      refine ⟨[some (.scr ns), a1, a2, a3, a4, some t, a6, a7, some (.bl b), some (.bl b)], S', ?_, _, _, rfl, rfl⟩
      cases b <;> simp only [bAnd_t, bAnd_f, bAnd_b, bAnd_c, bOr_t, bOr_f, bOr_b, bIf_t, bIf_f, bndF_ok, bndF_err, e_var, e_int, e_str, e_bl, e_non, e_glob, e_tup, e_lst, e_bin, e_neg, e_not, e_and, e_or, e_cmp, e_chain, e_ife, e_call, e_bi, e_isi, e_mt, e_sub, e_slice, e_rev, e_rng, es_nil, es_cons, eo_none, eo_some, eT, x_asg, x_par, x_expr, x_ret, x_retN, x_if, x_brk, x_cont, x_pass, xs_nil, xs_cons, go_next, go_brk, go_cont, go_ret, cs_eq, cT_none, cT_some, cElt, cI_t, cI_f, bnd_ok, List.getElem?_cons_zero, List.getElem?_cons_succ, optR, isTY, truthy, cmpOp, view, biOp, eqOk_int, eqOk_str, eqOk_bl, eqT_int, eqT_str, if_true, if_false, decide_true, decide_false, Bool.not_true, Bool.not_false, Bool.false_eq_true, id, sliceOf, item, atI_zero, binOp, newList, lstOf, Option.bind, Bool.true_and, Bool.and_true, Bool.false_and, Bool.and_false, Bool.or_true, Bool.true_or, Bool.false_or, Bool.or_false, Option.map, List.set_cons_zero, List.set_cons_succ, MG.asg, MG.asgs, setSlots, forStp, dB, cB, oS, oB, sL, b_law, List.getD_cons_zero, List.getD_cons_succ, beq_self_eq_true, show (false == true) = false from rfl, show (true == false) = false from rfl]) ⟨a8, a9, rfl, rfl⟩
  subst e1 e2
  refine ⟨b8, b9, ?_⟩
  rw [cB_eq]
  have hf : exec (C (d + 9)) (.for_ (.tup [.name 8, .name 9]) (.tup [.tup [.call 3 [.var 5], .call 15 [.var 5, .int 5, .bl false]], .tup [.call 4 [.var 5], .call 15 [.var 5, .int 5, .bl true]]]) dB) [some (.scr ns), a1, a2, a3, a4, some t, a6, a7, a8, a9] S' =
      .ok (.next, [some (.scr ns), a1, a2, a3, a4, some t, a6, a7, b8, b9]) S' := by
    rw [x_for]
    simp only [bAnd_t, bAnd_f, bAnd_b, bAnd_c, bOr_t, bOr_f, bOr_b, bIf_t, bIf_f, bndF_ok, bndF_err, e_var, e_int, e_str, e_bl, e_non, e_glob, e_tup, e_lst, e_bin, e_neg, e_not, e_and, e_or, e_cmp, e_chain, e_ife, e_call, e_bi, e_isi, e_mt, e_sub, e_slice, e_rev, e_rng, es_nil, es_cons, eo_none, eo_some, eT, x_asg, x_par, x_expr, x_ret, x_retN, x_if, x_brk, x_cont, x_pass, xs_nil, xs_cons, go_next, go_brk, go_cont, go_ret, cs_eq, cT_none, cT_some, cElt, cI_t, cI_f, bnd_ok, List.getElem?_cons_zero, List.getElem?_cons_succ, optR, isTY, truthy, cmpOp, view, biOp, eqOk_int, eqOk_str, eqOk_bl, eqT_int, eqT_str, if_true, if_false, decide_true, decide_false, Bool.not_true, Bool.not_false, Bool.false_eq_true, id, sliceOf, item, atI_zero, binOp, newList, lstOf, Option.bind, Bool.true_and, Bool.and_true, Bool.false_and, Bool.and_false, Bool.or_true, Bool.true_or, Bool.false_or, Bool.or_false, Option.map, List.set_cons_zero, List.set_cons_succ, MG.asg, MG.asgs, setSlots, c1, c2, c3, c4, itemsOf, e]
  rw [execs_next hf]
  rfl
end Lk01
namespace Lk01
open Mi
theorem nine : (0 : Int) < 9 := by decide
/-- one odd thing more -/
theorem app1 (D : Nat) (n : Nat) (env : Env) (es : List ME) (v : T) (xs : List T) (S : Store) (h3 : env[3]? = some (some (.ref n))) (hn : S[n]? = some (.lst xs)) (he : evs (C D) es env S = .ok [v] S) (hl : xs.length < line) :
    exec (C D) (.expr (.mt .append (.var 3) es)) env S = .ok (.next, env) (S.set n (.lst (xs ++ [v]))) := by
  have p1 : mtPre .append (.ref n) S = true := by
    unfold mtPre lstOf view
    simp only [hn, Option.isSome]
  have p2 : mtOp .append (.ref n) [v] S = .ok .non (S.set n (.lst (xs ++ [v]))) := by
    unfold mtOp
    simp only [hn]
    rw [if_pos hl]
  rw [x_expr, e_mt, e_var, h3]
  simp only [bndF_ok, p1, if_true, he, p2]
theorem set_at {S : Store} {n : Nat} {o o' : MO} (h : S[n]? = some o) : (S.set n o')[n]? = some o' := by
  rw [List.getElem?_set_self (List.getElem?_eq_some_iff.mp h).1]
theorem evs1 {c : Cfg} {e : ME} {env : Env} {S S' : Store} {v : T} (h : ev c e env S = .ok v S') : evs c [e] env S = .ok [v] S' := by
  rw [evs, h]
  simp only [bnd_ok, evs]
/-- sixteen times two odd things -/
theorem odds (D : Nat) (hD : ∃ d, D = d + 9) (ns : List Int) (k : Nat) (n : Nat) (a2 a4 a5 a8 a9 : Option T) (t6 t7 : T) (h6 : okT 4 t6) (h7 : okT 4 t7) (xs : List T) (hx : T.datas xs = true) (hl : xs.length ≤ 1000) (S : Store) (hn : S[n]? = some (.lst xs)) :
    ∃ S' a4' ys, exec (C D) (oS 7) [some (.scr ns), some (.int (0 + (k : Nat) * 1)), a2, some (.ref n), a4, a5, some t6, some t7, a8, a9] S = .ok (.next, [some (.scr ns), some (.int (0 + (k : Nat) * 1)), a2, some (.ref n), a4', a5, some t6, some t7, a8, a9]) S' ∧
      S'[n]? = some (.lst ys) ∧ T.datas ys = true := by
  obtain ⟨d, rfl⟩ := hD
  obtain ⟨z, hz⟩ := c_cell (d + 8) ns 9 S
  have hz : ∀ S, callN G gv 0 (d + 9) 5 [.scr ns, .int 9] S = .ok (.int z) S := hz
  have hll : line = 16777216 := rfl
  obtain ⟨env', S', e, _, a4', ys, e1, e2, e3, e4⟩ := forLoop_ix (body := forStp (C (d + 9)) (.name 4) aB) (ck := still none (rangeL 0 16 1)) (xs := rangeL 0 16 1) (k := 0)
    (env := [some (.scr ns), some (.int (0 + (k : Nat) * 1)), a2, some (.ref n), a4, a5, some t6, some t7, a8, a9]) (S := S)
    (fun i env S => True ∧ ∃ (a4 : Option T) (ys : List T), env = [some (.scr ns), some (.int (0 + (k : Nat) * 1)), a2, some (.ref n), a4, a5, some t6, some t7, a8, a9] ∧ S[n]? = some (.lst ys) ∧ T.datas ys = true ∧ ys.length ≤ 1000 + 2 * i) (fun _ _ _ _ => rfl)
    (fun i x hxi env S ⟨_, a4, ys, he, hn, hd, hl⟩ => by
      subst he
      obtain ⟨hi, rfl⟩ := rangeL_ix hxi
      have j1 : ((17 : Int).natAbs < 2 ^ 64 ∨ ((0 : Int) + (i : Nat) * 1).natAbs < 2 ^ 64) = True := eq_true (.inl (by decide))
      have j2 : ((5 : Int).natAbs < 2 ^ 64 ∨ ((0 : Int) + (k : Nat) * 1).natAbs < 2 ^ 64) = True := eq_true (.inl (by decide))
      have j3 : ((19 : Int).natAbs < 2 ^ 64 ∨ ((0 : Int) + (i : Nat) * 1).natAbs < 2 ^ 64) = True := eq_true (.inl (by decide))
      obtain ⟨u1, du1, eu1⟩ := c_odd 4 t6 (z + 17 * (0 + (i : Nat) * 1) + 5 * (0 + (k : Nat) * 1)) (d + 2) S h6
      have eu1 : callN G gv 0 (d + 9) 14 [t6, .int (z + 17 * (0 + (i : Nat) * 1) + 5 * (0 + (k : Nat) * 1))] S = .ok u1 S := eu1
      have s1 := app1 (d + 9) n [some (.scr ns), some (.int (0 + (k : Nat) * 1)), a2, some (.ref n), some (.int (0 + (i : Nat) * 1)), a5, some t6, some t7, a8, a9]
        [.call 14 [.var 6, .bin false .add (.bin false .add (.call 5 [.var 0, .int 9]) (.bin false .mul (.int 17) (.var 4))) (.bin false .mul (.int 5) (.var 1))]] u1 ys S rfl hn (evs1 (by simp only [bAnd_t, bAnd_f, bAnd_b, bAnd_c, bOr_t, bOr_f, bOr_b, bIf_t, bIf_f, bndF_ok, bndF_err, e_var, e_int, e_str, e_bl, e_non, e_glob, e_tup, e_lst, e_bin, e_neg, e_not, e_and, e_or, e_cmp, e_chain, e_ife, e_call, e_bi, e_isi, e_mt, e_sub, e_slice, e_rev, e_rng, es_nil, es_cons, eo_none, eo_some, eT, x_asg, x_par, x_expr, x_ret, x_retN, x_if, x_brk, x_cont, x_pass, xs_nil, xs_cons, go_next, go_brk, go_cont, go_ret, cs_eq, cT_none, cT_some, cElt, cI_t, cI_f, bnd_ok, List.getElem?_cons_zero, List.getElem?_cons_succ, optR, isTY, truthy, cmpOp, view, biOp, eqOk_int, eqOk_str, eqOk_bl, eqT_int, eqT_str, if_true, if_false, decide_true, decide_false, Bool.not_true, Bool.not_false, Bool.false_eq_true, id, sliceOf, item, atI_zero, binOp, newList, lstOf, Option.bind, Bool.true_and, Bool.and_true, Bool.false_and, Bool.and_false, Bool.or_true, Bool.true_or, Bool.false_or, Bool.or_false, Option.map, List.set_cons_zero, List.set_cons_succ, MG.asg, MG.asgs, setSlots, hz, j1, j2, eu1])) (by omega)
      have hn1 := set_at (o' := .lst (ys ++ [u1])) hn
      obtain ⟨u2, du2, eu2⟩ := c_odd 4 t7 (z + 19 * (0 + (i : Nat) * 1) + 5 * (0 + (k : Nat) * 1)) (d + 2) (S.set n (.lst (ys ++ [u1]))) h7
      have eu2 : callN G gv 0 (d + 9) 14 [t7, .int (z + 19 * (0 + (i : Nat) * 1) + 5 * (0 + (k : Nat) * 1))] (S.set n (.lst (ys ++ [u1]))) = .ok u2 (S.set n (.lst (ys ++ [u1]))) := eu2
      have s2 := app1 (d + 9) n [some (.scr ns), some (.int (0 + (k : Nat) * 1)), a2, some (.ref n), some (.int (0 + (i : Nat) * 1)), a5, some t6, some t7, a8, a9]
        [.call 14 [.var 7, .bin false .add (.bin false .add (.call 5 [.var 0, .int 9]) (.bin false .mul (.int 19) (.var 4))) (.bin false .mul (.int 5) (.var 1))]] u2 (ys ++ [u1]) _ rfl hn1 (evs1 (by simp only [bAnd_t, bAnd_f, bAnd_b, bAnd_c, bOr_t, bOr_f, bOr_b, bIf_t, bIf_f, bndF_ok, bndF_err, e_var, e_int, e_str, e_bl, e_non, e_glob, e_tup, e_lst, e_bin, e_neg, e_not, e_and, e_or, e_cmp, e_chain, e_ife, e_call, e_bi, e_isi, e_mt, e_sub, e_slice, e_rev, e_rng, es_nil, es_cons, eo_none, eo_some, eT, x_asg, x_par, x_expr, x_ret, x_retN, x_if, x_brk, x_cont, x_pass, xs_nil, xs_cons, go_next, go_brk, go_cont, go_ret, cs_eq, cT_none, cT_some, cElt, cI_t, cI_f, bnd_ok, List.getElem?_cons_zero, List.getElem?_cons_succ, optR, isTY, truthy, cmpOp, view, biOp, eqOk_int, eqOk_str, eqOk_bl, eqT_int, eqT_str, if_true, if_false, decide_true, decide_false, Bool.not_true, Bool.not_false, Bool.false_eq_true, id, sliceOf, item, atI_zero, binOp, newList, lstOf, Option.bind, Bool.true_and, Bool.and_true, Bool.false_and, Bool.and_false, Bool.or_true, Bool.true_or, Bool.false_or, Bool.or_false, Option.map, List.set_cons_zero, List.set_cons_succ, MG.asg, MG.asgs, setSlots, hz, j3, j2, eu2])) (by rw [List.length_append, List.length_singleton]; omega)
      refine ⟨_, _, ?_, trivial, some (.int (0 + (i : Nat) * 1)), ys ++ [u1] ++ [u2], rfl, set_at hn1, ?_, ?_⟩
      · show execs (C (d + 9)) [.expr (.mt .append (.var 3) [.call 14 [.var 6, .bin false .add (.bin false .add (.call 5 [.var 0, .int 9]) (.bin false .mul (.int 17) (.var 4))) (.bin false .mul (.int 5) (.var 1))]]), .expr (.mt .append (.var 3) [.call 14 [.var 7, .bin false .add (.bin false .add (.call 5 [.var 0, .int 9]) (.bin false .mul (.int 19) (.var 4))) (.bin false .mul (.int 5) (.var 1))]])]
          [some (.scr ns), some (.int (0 + (k : Nat) * 1)), a2, some (.ref n), some (.int (0 + (i : Nat) * 1)), a5, some t6, some t7, a8, a9] S = _
        rw [execs_next s1, execs_next s2]
        rfl
      · exact datas_app (datas_app hd (by simp [T.datas, du1])) (by simp [T.datas, du2])
      · simp only [List.length_append, List.length_singleton]
        omega)
    ⟨trivial, a4, xs, rfl, hn, hx, by omega⟩
  subst e1
  refine ⟨S', a4', ys, ?_, e2, e3⟩
  have hr : rangeOf [.int 16] = some (.lst (rangeL 0 16 1)) := rfl
  rw [oS7, x_for]
  simp only [bAnd_t, bAnd_f, bAnd_b, bAnd_c, bOr_t, bOr_f, bOr_b, bIf_t, bIf_f, bndF_ok, bndF_err, e_var, e_int, e_str, e_bl, e_non, e_glob, e_tup, e_lst, e_bin, e_neg, e_not, e_and, e_or, e_cmp, e_chain, e_ife, e_call, e_bi, e_isi, e_mt, e_sub, e_slice, e_rev, e_rng, es_nil, es_cons, eo_none, eo_some, eT, x_asg, x_par, x_expr, x_ret, x_retN, x_if, x_brk, x_cont, x_pass, xs_nil, xs_cons, go_next, go_brk, go_cont, go_ret, cs_eq, cT_none, cT_some, cElt, cI_t, cI_f, bnd_ok, List.getElem?_cons_zero, List.getElem?_cons_succ, optR, isTY, truthy, cmpOp, view, biOp, eqOk_int, eqOk_str, eqOk_bl, eqT_int, eqT_str, if_true, if_false, decide_true, decide_false, Bool.not_true, Bool.not_false, Bool.false_eq_true, id, sliceOf, item, atI_zero, binOp, newList, lstOf, Option.bind, Bool.true_and, Bool.and_true, Bool.false_and, Bool.and_false, Bool.or_true, Bool.true_or, Bool.false_or, Bool.or_false, Option.map, List.set_cons_zero, List.set_cons_succ, MG.asg, MG.asgs, setSlots, hr, itemsOf, e]
/-- all things told -/
theorem looks (D : Nat) (hD : ∃ d, D = d + 9) (ns : List Int) (n : Nat) (a1 a2 a4 a5 a6 a7 a8 a9 : Option T) (xs : List T) (hx : T.datas xs = true) (S : Store) (hn : S[n]? = some (.lst xs)) :
    ∃ b5 b8 b9, exec (C D) (oS 8) [some (.scr ns), a1, a2, some (.ref n), a4, a5, a6, a7, a8, a9] S = .ok (.next, [some (.scr ns), a1, a2, some (.ref n), a4, b5, a6, a7, b8, b9]) S := by
  obtain ⟨env', S', e, b5, b8, b9, e1, e2⟩ := forLoop_inv (body := forStp (C D) (.name 5) cB) (ck := still (some n) xs) (xs := xs) (env := [some (.scr ns), a1, a2, some (.ref n), a4, a5, a6, a7, a8, a9]) (S := S)
    (fun env S' => ∃ b5 b8 b9, env = [some (.scr ns), a1, a2, some (.ref n), a4, b5, a6, a7, b8, b9] ∧ S' = S) (fun env S' ⟨_, _, _, _, e⟩ => by subst e; exact decide_eq_true hn)
    (fun x hxm env S' ⟨b5, b8, b9, he, hS⟩ => by
      subst he hS
      obtain ⟨c8, c9, q⟩ := look D hD ns a1 a2 (some (.ref n)) a4 a6 a7 b8 b9 x (datas_iff.mp hx x hxm) S'
      exact ⟨_, S', q, some x, c8, c9, rfl, rfl⟩)
    ⟨a5, a8, a9, rfl, rfl⟩
  subst e1 e2
  refine ⟨b5, b8, b9, ?_⟩
  rw [oS8, x_for]
  have hi : itemsOf S' (.ref n) = some (xs, some n) := by
    unfold itemsOf
    simp only [hn]
  simp only [bAnd_t, bAnd_f, bAnd_b, bAnd_c, bOr_t, bOr_f, bOr_b, bIf_t, bIf_f, bndF_ok, bndF_err, e_var, e_int, e_str, e_bl, e_non, e_glob, e_tup, e_lst, e_bin, e_neg, e_not, e_and, e_or, e_cmp, e_chain, e_ife, e_call, e_bi, e_isi, e_mt, e_sub, e_slice, e_rev, e_rng, es_nil, es_cons, eo_none, eo_some, eT, x_asg, x_par, x_expr, x_ret, x_retN, x_if, x_brk, x_cont, x_pass, xs_nil, xs_cons, go_next, go_brk, go_cont, go_ret, cs_eq, cT_none, cT_some, cElt, cI_t, cI_f, bnd_ok, List.getElem?_cons_zero, List.getElem?_cons_succ, optR, isTY, truthy, cmpOp, view, biOp, eqOk_int, eqOk_str, eqOk_bl, eqT_int, eqT_str, if_true, if_false, decide_true, decide_false, Bool.not_true, Bool.not_false, Bool.false_eq_true, id, sliceOf, item, atI_zero, binOp, newList, lstOf, Option.bind, Bool.true_and, Bool.and_true, Bool.false_and, Bool.and_false, Bool.or_true, Bool.true_or, Bool.false_or, Bool.or_false, Option.map, List.set_cons_zero, List.set_cons_succ, MG.asg, MG.asgs, setSlots, hi, e]
end Lk01
namespace Lk01
open Mi
def L0 (t6 t7 : T) : List T := [t6, t7, .tup [.str "f".toList, t6], .tup [.str "g".toList, .tup [.str "f".toList, .tup [.str "f".toList, .tup [.str "f".toList, t7]]]]]
def L1 : List T := [.tup [.str "f".toList], .tup [.str "f".toList, .str "a".toList, .str "a".toList, .str "a".toList, .str "a".toList], .tup [.str "f".toList, .str "a".toList, .str "a".toList, .str "a".toList], .tup [.str "?x".toList, .str "a".toList]]
def L2' : List T := [.str "".toList, .str "abcd".toList, .str "?".toList, .str "?abc".toList, .str "?ab".toList, .str "A".toList, .str "a b".toList]
def L3 : List T := [.tup [.str "long".toList, .str "a".toList], .tup [.str "fff".toList, .str "a".toList], .tup [.tup [.str "f".toList, .str "a".toList], .str "a".toList]]
def L4 : List T := [.non, .tup [.str "f".toList, .non], .lst [.str "f".toList, .str "a".toList]]
theorem L0_data {t6 t7 : T} (h : t6.data = true) (k : t7.data = true) : T.datas (L0 t6 t7) = true := by simp [L0, T.datas, T.data, h, k]
theorem round (D : Nat) (hD : ∃ d, D = d + 9) (ns : List Int) (i : Nat) (a2 a3 a4 a5 a6 a7 a8 a9 : Option T) (S : Store) :
    ∃ b2 b3 b4 b5 b6 b7 b8 b9 S', execs (C D) oB [some (.scr ns), some (.int (0 + (i : Nat) * 1)), a2, a3, a4, a5, a6, a7, a8, a9] S = .ok (.next, [some (.scr ns), some (.int (0 + (i : Nat) * 1)), b2, b3, b4, b5, b6, b7, b8, b9]) S' := by
  have hD' := hD
  obtain ⟨d, rfl⟩ := hD
  obtain ⟨z, hz⟩ := c_cell (d + 8) ns (i % 9) S
  have hz : ∀ S, callN G gv 0 (d + 9) 5 [.scr ns, .int ((i % 9 : Nat) : Int)] S = .ok (.int z) S := hz
  have ei : ((0 : Int) + (i : Nat) * 1) % 9 = ((i % 9 : Nat) : Int) := by omega
  have j1 : ((31 : Int).natAbs < 2 ^ 64 ∨ ((0 : Int) + (i : Nat) * 1).natAbs < 2 ^ 64) = True := eq_true (.inl (by decide))
  have hll : line = 16777216 := rfl
  generalize hc : z + 31 * (0 + (i : Nat) * 1) = c
  have s0 : exec (C (d + 9)) (oS 0) [some (.scr ns), some (.int (0 + (i : Nat) * 1)), a2, a3, a4, a5, a6, a7, a8, a9] S = .ok (.next, [some (.scr ns), some (.int (0 + (i : Nat) * 1)), some (.int c), a3, a4, a5, a6, a7, a8, a9]) S := by
    rw [← hc]
    simp only [bAnd_t, bAnd_f, bAnd_b, bAnd_c, bOr_t, bOr_f, bOr_b, bIf_t, bIf_f, bndF_ok, bndF_err, e_var, e_int, e_str, e_bl, e_non, e_glob, e_tup, e_lst, e_bin, e_neg, e_not, e_and, e_or, e_cmp, e_chain, e_ife, e_call, e_bi, e_isi, e_mt, e_sub, e_slice, e_rev, e_rng, es_nil, es_cons, eo_none, eo_some, eT, x_asg, x_par, x_expr, x_ret, x_retN, x_if, x_brk, x_cont, x_pass, xs_nil, xs_cons, go_next, go_brk, go_cont, go_ret, cs_eq, cT_none, cT_some, cElt, cI_t, cI_f, bnd_ok, List.getElem?_cons_zero, List.getElem?_cons_succ, optR, isTY, truthy, cmpOp, view, biOp, eqOk_int, eqOk_str, eqOk_bl, eqT_int, eqT_str, if_true, if_false, decide_true, decide_false, Bool.not_true, Bool.not_false, Bool.false_eq_true, id, sliceOf, item, atI_zero, binOp, newList, lstOf, Option.bind, Bool.true_and, Bool.and_true, Bool.false_and, Bool.and_false, Bool.or_true, Bool.true_or, Bool.false_or, Bool.or_false, Option.map, List.set_cons_zero, List.set_cons_succ, MG.asg, MG.asgs, setSlots, oS, oB, sL, b_law, List.getD_cons_zero, List.getD_cons_succ, nine, ei, hz, j1]
  obtain ⟨t6, o6, e6⟩ := c_tree 4 c false (d + 2) S
  obtain ⟨t7, o7, e7⟩ := c_tree 4 (c + 1) true (d + 2) S
  have e6 : callN G gv 0 (d + 9) 8 [.int c, .int 5, .bl false] S = .ok t6 S := e6
  have e7 : callN G gv 0 (d + 9) 8 [.int (c + 1), .int 5, .bl true] S = .ok t7 S := e7
  have s1 : exec (C (d + 9)) (oS 1) [some (.scr ns), some (.int (0 + (i : Nat) * 1)), some (.int c), a3, a4, a5, a6, a7, a8, a9] S = .ok (.next, [some (.scr ns), some (.int (0 + (i : Nat) * 1)), some (.int c), a3, a4, a5, some t6, some t7, a8, a9]) S := by
    simp only [bAnd_t, bAnd_f, bAnd_b, bAnd_c, bOr_t, bOr_f, bOr_b, bIf_t, bIf_f, bndF_ok, bndF_err, e_var, e_int, e_str, e_bl, e_non, e_glob, e_tup, e_lst, e_bin, e_neg, e_not, e_and, e_or, e_cmp, e_chain, e_ife, e_call, e_bi, e_isi, e_mt, e_sub, e_slice, e_rev, e_rng, es_nil, es_cons, eo_none, eo_some, eT, x_asg, x_par, x_expr, x_ret, x_retN, x_if, x_brk, x_cont, x_pass, xs_nil, xs_cons, go_next, go_brk, go_cont, go_ret, cs_eq, cT_none, cT_some, cElt, cI_t, cI_f, bnd_ok, List.getElem?_cons_zero, List.getElem?_cons_succ, optR, isTY, truthy, cmpOp, view, biOp, eqOk_int, eqOk_str, eqOk_bl, eqT_int, eqT_str, if_true, if_false, decide_true, decide_false, Bool.not_true, Bool.not_false, Bool.false_eq_true, id, sliceOf, item, atI_zero, binOp, newList, lstOf, Option.bind, Bool.true_and, Bool.and_true, Bool.false_and, Bool.and_false, Bool.or_true, Bool.true_or, Bool.false_or, Bool.or_false, Option.map, List.set_cons_zero, List.set_cons_succ, MG.asg, MG.asgs, setSlots, oS, oB, sL, b_law, List.getD_cons_zero, List.getD_cons_succ, e6, e7]
  have s2 : exec (C (d + 9)) (oS 2) [some (.scr ns), some (.int (0 + (i : Nat) * 1)), some (.int c), a3, a4, a5, some t6, some t7, a8, a9] S = .ok (.next, [some (.scr ns), some (.int (0 + (i : Nat) * 1)), some (.int c), some (.ref S.length), a4, a5, some t6, some t7, a8, a9]) (S ++ [.lst (L0 t6 t7)]) := by
    simp only [bAnd_t, bAnd_f, bAnd_b, bAnd_c, bOr_t, bOr_f, bOr_b, bIf_t, bIf_f, bndF_ok, bndF_err, e_var, e_int, e_str, e_bl, e_non, e_glob, e_tup, e_lst, e_bin, e_neg, e_not, e_and, e_or, e_cmp, e_chain, e_ife, e_call, e_bi, e_isi, e_mt, e_sub, e_slice, e_rev, e_rng, es_nil, es_cons, eo_none, eo_some, eT, x_asg, x_par, x_expr, x_ret, x_retN, x_if, x_brk, x_cont, x_pass, xs_nil, xs_cons, go_next, go_brk, go_cont, go_ret, cs_eq, cT_none, cT_some, cElt, cI_t, cI_f, bnd_ok, List.getElem?_cons_zero, List.getElem?_cons_succ, optR, isTY, truthy, cmpOp, view, biOp, eqOk_int, eqOk_str, eqOk_bl, eqT_int, eqT_str, if_true, if_false, decide_true, decide_false, Bool.not_true, Bool.not_false, Bool.false_eq_true, id, sliceOf, item, atI_zero, binOp, newList, lstOf, Option.bind, Bool.true_and, Bool.and_true, Bool.false_and, Bool.and_false, Bool.or_true, Bool.true_or, Bool.false_or, Bool.or_false, Option.map, List.set_cons_zero, List.set_cons_succ, MG.asg, MG.asgs, setSlots, oS, oB, sL, b_law, List.getD_cons_zero, List.getD_cons_succ, L0]
  have d6 := okT_data o6
  have d7 := okT_data o7
  have l0 : (L0 t6 t7).length = 4 := rfl
  generalize hS1 : S ++ [.lst (L0 t6 t7)] = S1 at s2
  have n1 : S1[S.length]? = some (.lst (L0 t6 t7)) := by rw [← hS1]; exact at_end
  have s3 : exec (C (d + 9)) (oS 3) [some (.scr ns), some (.int (0 + (i : Nat) * 1)), some (.int c), some (.ref S.length), a4, a5, some t6, some t7, a8, a9] S1 = .ok (.next, [some (.scr ns), some (.int (0 + (i : Nat) * 1)), some (.int c), some (.ref S1.length), a4, a5, some t6, some t7, a8, a9]) (S1 ++ [.lst (L0 t6 t7 ++ L1)]) :=
    addL (env := [some (.scr ns), some (.int (0 + (i : Nat) * 1)), some (.int c), some (.ref S.length), a4, a5, some t6, some t7, a8, a9]) rfl n1 (by simp only [bAnd_t, bAnd_f, bAnd_b, bAnd_c, bOr_t, bOr_f, bOr_b, bIf_t, bIf_f, bndF_ok, bndF_err, e_var, e_int, e_str, e_bl, e_non, e_glob, e_tup, e_lst, e_bin, e_neg, e_not, e_and, e_or, e_cmp, e_chain, e_ife, e_call, e_bi, e_isi, e_mt, e_sub, e_slice, e_rev, e_rng, es_nil, es_cons, eo_none, eo_some, eT, x_asg, x_par, x_expr, x_ret, x_retN, x_if, x_brk, x_cont, x_pass, xs_nil, xs_cons, go_next, go_brk, go_cont, go_ret, cs_eq, cT_none, cT_some, cElt, cI_t, cI_f, bnd_ok, List.getElem?_cons_zero, List.getElem?_cons_succ, optR, isTY, truthy, cmpOp, view, biOp, eqOk_int, eqOk_str, eqOk_bl, eqT_int, eqT_str, if_true, if_false, decide_true, decide_false, Bool.not_true, Bool.not_false, Bool.false_eq_true, id, sliceOf, item, atI_zero, binOp, newList, lstOf, Option.bind, Bool.true_and, Bool.and_true, Bool.false_and, Bool.and_false, Bool.or_true, Bool.true_or, Bool.false_or, Bool.or_false, Option.map, List.set_cons_zero, List.set_cons_succ, MG.asg, MG.asgs, setSlots, L1]) (by rw [l0]; show 4 + 4 ≤ line; decide)
  generalize hS2 : S1 ++ [.lst (L0 t6 t7 ++ L1)] = S2 at s3
  have n2 : S2[S1.length]? = some (.lst (L0 t6 t7 ++ L1)) := by rw [← hS2]; exact at_end
  have s4 : exec (C (d + 9)) (oS 4) [some (.scr ns), some (.int (0 + (i : Nat) * 1)), some (.int c), some (.ref S1.length), a4, a5, some t6, some t7, a8, a9] S2 = .ok (.next, [some (.scr ns), some (.int (0 + (i : Nat) * 1)), some (.int c), some (.ref S2.length), a4, a5, some t6, some t7, a8, a9]) (S2 ++ [.lst (L0 t6 t7 ++ L1 ++ L2')]) :=
    addL (env := [some (.scr ns), some (.int (0 + (i : Nat) * 1)), some (.int c), some (.ref S1.length), a4, a5, some t6, some t7, a8, a9]) rfl n2 (by simp only [bAnd_t, bAnd_f, bAnd_b, bAnd_c, bOr_t, bOr_f, bOr_b, bIf_t, bIf_f, bndF_ok, bndF_err, e_var, e_int, e_str, e_bl, e_non, e_glob, e_tup, e_lst, e_bin, e_neg, e_not, e_and, e_or, e_cmp, e_chain, e_ife, e_call, e_bi, e_isi, e_mt, e_sub, e_slice, e_rev, e_rng, es_nil, es_cons, eo_none, eo_some, eT, x_asg, x_par, x_expr, x_ret, x_retN, x_if, x_brk, x_cont, x_pass, xs_nil, xs_cons, go_next, go_brk, go_cont, go_ret, cs_eq, cT_none, cT_some, cElt, cI_t, cI_f, bnd_ok, List.getElem?_cons_zero, List.getElem?_cons_succ, optR, isTY, truthy, cmpOp, view, biOp, eqOk_int, eqOk_str, eqOk_bl, eqT_int, eqT_str, if_true, if_false, decide_true, decide_false, Bool.not_true, Bool.not_false, Bool.false_eq_true, id, sliceOf, item, atI_zero, binOp, newList, lstOf, Option.bind, Bool.true_and, Bool.and_true, Bool.false_and, Bool.and_false, Bool.or_true, Bool.true_or, Bool.false_or, Bool.or_false, Option.map, List.set_cons_zero, List.set_cons_succ, MG.asg, MG.asgs, setSlots, L2']) (by show 8 + 7 ≤ line; decide)
  generalize hS3 : S2 ++ [.lst (L0 t6 t7 ++ L1 ++ L2')] = S3 at s4
  have n3 : S3[S2.length]? = some (.lst (L0 t6 t7 ++ L1 ++ L2')) := by rw [← hS3]; exact at_end
  have s5 : exec (C (d + 9)) (oS 5) [some (.scr ns), some (.int (0 + (i : Nat) * 1)), some (.int c), some (.ref S2.length), a4, a5, some t6, some t7, a8, a9] S3 = .ok (.next, [some (.scr ns), some (.int (0 + (i : Nat) * 1)), some (.int c), some (.ref S3.length), a4, a5, some t6, some t7, a8, a9]) (S3 ++ [.lst (L0 t6 t7 ++ L1 ++ L2' ++ L3)]) :=
    addL (env := [some (.scr ns), some (.int (0 + (i : Nat) * 1)), some (.int c), some (.ref S2.length), a4, a5, some t6, some t7, a8, a9]) rfl n3 (by simp only [bAnd_t, bAnd_f, bAnd_b, bAnd_c, bOr_t, bOr_f, bOr_b, bIf_t, bIf_f, bndF_ok, bndF_err, e_var, e_int, e_str, e_bl, e_non, e_glob, e_tup, e_lst, e_bin, e_neg, e_not, e_and, e_or, e_cmp, e_chain, e_ife, e_call, e_bi, e_isi, e_mt, e_sub, e_slice, e_rev, e_rng, es_nil, es_cons, eo_none, eo_some, eT, x_asg, x_par, x_expr, x_ret, x_retN, x_if, x_brk, x_cont, x_pass, xs_nil, xs_cons, go_next, go_brk, go_cont, go_ret, cs_eq, cT_none, cT_some, cElt, cI_t, cI_f, bnd_ok, List.getElem?_cons_zero, List.getElem?_cons_succ, optR, isTY, truthy, cmpOp, view, biOp, eqOk_int, eqOk_str, eqOk_bl, eqT_int, eqT_str, if_true, if_false, decide_true, decide_false, Bool.not_true, Bool.not_false, Bool.false_eq_true, id, sliceOf, item, atI_zero, binOp, newList, lstOf, Option.bind, Bool.true_and, Bool.and_true, Bool.false_and, Bool.and_false, Bool.or_true, Bool.true_or, Bool.false_or, Bool.or_false, Option.map, List.set_cons_zero, List.set_cons_succ, MG.asg, MG.asgs, setSlots, L3]) (by show 15 + 3 ≤ line; decide)
  generalize hS4 : S3 ++ [.lst (L0 t6 t7 ++ L1 ++ L2' ++ L3)] = S4 at s5
  have n4 : S4[S3.length]? = some (.lst (L0 t6 t7 ++ L1 ++ L2' ++ L3)) := by rw [← hS4]; exact at_end
  have s6 : exec (C (d + 9)) (oS 6) [some (.scr ns), some (.int (0 + (i : Nat) * 1)), some (.int c), some (.ref S3.length), a4, a5, some t6, some t7, a8, a9] S4 = .ok (.next, [some (.scr ns), some (.int (0 + (i : Nat) * 1)), some (.int c), some (.ref S4.length), a4, a5, some t6, some t7, a8, a9]) (S4 ++ [.lst (L0 t6 t7 ++ L1 ++ L2' ++ L3 ++ L4)]) :=
    addL (env := [some (.scr ns), some (.int (0 + (i : Nat) * 1)), some (.int c), some (.ref S3.length), a4, a5, some t6, some t7, a8, a9]) rfl n4 (by simp only [bAnd_t, bAnd_f, bAnd_b, bAnd_c, bOr_t, bOr_f, bOr_b, bIf_t, bIf_f, bndF_ok, bndF_err, e_var, e_int, e_str, e_bl, e_non, e_glob, e_tup, e_lst, e_bin, e_neg, e_not, e_and, e_or, e_cmp, e_chain, e_ife, e_call, e_bi, e_isi, e_mt, e_sub, e_slice, e_rev, e_rng, es_nil, es_cons, eo_none, eo_some, eT, x_asg, x_par, x_expr, x_ret, x_retN, x_if, x_brk, x_cont, x_pass, xs_nil, xs_cons, go_next, go_brk, go_cont, go_ret, cs_eq, cT_none, cT_some, cElt, cI_t, cI_f, bnd_ok, List.getElem?_cons_zero, List.getElem?_cons_succ, optR, isTY, truthy, cmpOp, view, biOp, eqOk_int, eqOk_str, eqOk_bl, eqT_int, eqT_str, if_true, if_false, decide_true, decide_false, Bool.not_true, Bool.not_false, Bool.false_eq_true, id, sliceOf, item, atI_zero, binOp, newList, lstOf, Option.bind, Bool.true_and, Bool.and_true, Bool.false_and, Bool.and_false, Bool.or_true, Bool.true_or, Bool.false_or, Bool.or_false, Option.map, List.set_cons_zero, List.set_cons_succ, MG.asg, MG.asgs, setSlots, L4]) (by show 18 + 3 ≤ line; decide)
  generalize hS5 : S4 ++ [.lst (L0 t6 t7 ++ L1 ++ L2' ++ L3 ++ L4)] = S5 at s6
  have n5 : S5[S4.length]? = some (.lst (L0 t6 t7 ++ L1 ++ L2' ++ L3 ++ L4)) := by rw [← hS5]; exact at_end
  have hx : T.datas (L0 t6 t7 ++ L1 ++ L2' ++ L3 ++ L4) = true := datas_app (datas_app (datas_app (datas_app (L0_data d6 d7) (by decide)) (by decide)) (by decide)) (by decide)
  obtain ⟨S6, a4', ys, s7, n6, hy⟩ := odds (d + 9) hD' ns i S4.length (some (.int c)) a4 a5 a8 a9 t6 t7 o6 o7 _ hx (by show 21 ≤ 1000; decide) S5 n5
  obtain ⟨b5, b8, b9, s8⟩ := looks (d + 9) hD' ns S4.length (some (.int (0 + (i : Nat) * 1))) (some (.int c)) a4' a5 (some t6) (some t7) a8 a9 ys hy S6 n6
  refine ⟨some (.int c), some (.ref S4.length), a4', b5, some t6, some t7, b8, b9, S6, ?_⟩
  rw [oB_eq, execs_next s0, execs_next s1, execs_next s2, execs_next s3, execs_next s4, execs_next s5, execs_next s6, execs_next s7, execs_next s8]
  rfl
theorem law_true : ∀ ns : List Int, ns.length ≤ 63 → callN (tabOf ds) (gvOf gs) 0 100 16 [.scr ns] [] = .ok (.bl true) [] := by
  intro ns _
  have hD : ∃ d, 99 = d + 9 := ⟨90, rfl⟩
  obtain ⟨env', S', e, b1, b2, b3, b4, b5, b6, b7, b8, b9, e1⟩ := forLoop_ix (body := forStp (C 99) (.name 1) oB) (ck := still none (rangeL 0 12 1)) (xs := rangeL 0 12 1) (k := 0)
    (env := [some (.scr ns), none, none, none, none, none, none, none, none, none]) (S := [])
    (fun _ env _ => ∃ b1 b2 b3 b4 b5 b6 b7 b8 b9, env = [some (.scr ns), b1, b2, b3, b4, b5, b6, b7, b8, b9]) (fun _ _ _ _ => rfl)
    (fun i x hxi env S ⟨b1, b2, b3, b4, b5, b6, b7, b8, b9, he⟩ => by
      subst he
      obtain ⟨_, rfl⟩ := rangeL_ix hxi
      obtain ⟨c2, c3, c4, c5, c6, c7, c8, c9, S', q⟩ := round 99 hD ns i b2 b3 b4 b5 b6 b7 b8 b9 S
      exact ⟨_, S', q, some (.int (0 + (i : Nat) * 1)), c2, c3, c4, c5, c6, c7, c8, c9, rfl⟩)
    ⟨none, none, none, none, none, none, none, none, none, rfl⟩
  subst e1
  have hr : rangeOf [.int 12] = some (.lst (rangeL 0 12 1)) := rfl
  have s0 : exec (C 99) (sL 0) [some (.scr ns), none, none, none, none, none, none, none, none, none] [] = .ok (.next, [some (.scr ns), b1, b2, b3, b4, b5, b6, b7, b8, b9]) S' := by
    rw [sL0, x_for]
    simp only [bAnd_t, bAnd_f, bAnd_b, bAnd_c, bOr_t, bOr_f, bOr_b, bIf_t, bIf_f, bndF_ok, bndF_err, e_var, e_int, e_str, e_bl, e_non, e_glob, e_tup, e_lst, e_bin, e_neg, e_not, e_and, e_or, e_cmp, e_chain, e_ife, e_call, e_bi, e_isi, e_mt, e_sub, e_slice, e_rev, e_rng, es_nil, es_cons, eo_none, eo_some, eT, x_asg, x_par, x_expr, x_ret, x_retN, x_if, x_brk, x_cont, x_pass, xs_nil, xs_cons, go_next, go_brk, go_cont, go_ret, cs_eq, cT_none, cT_some, cElt, cI_t, cI_f, bnd_ok, List.getElem?_cons_zero, List.getElem?_cons_succ, optR, isTY, truthy, cmpOp, view, biOp, eqOk_int, eqOk_str, eqOk_bl, eqT_int, eqT_str, if_true, if_false, decide_true, decide_false, Bool.not_true, Bool.not_false, Bool.false_eq_true, id, sliceOf, item, atI_zero, binOp, newList, lstOf, Option.bind, Bool.true_and, Bool.and_true, Bool.false_and, Bool.and_false, Bool.or_true, Bool.true_or, Bool.false_or, Bool.or_false, Option.map, List.set_cons_zero, List.set_cons_succ, MG.asg, MG.asgs, setSlots, hr, itemsOf, e]
  have p1 : patB 5 (.tup [.str "f".toList, .tup [.str "f".toList, .tup [.str "f".toList, .tup [.str "f".toList, .str "a".toList]]]]) false = true := by decide +kernel
  have p2 : patB 5 (.tup [.str "f".toList, .tup [.str "f".toList, .tup [.str "f".toList, .tup [.str "f".toList, .tup [.str "f".toList, .str "a".toList]]]]]) false = false := by decide +kernel
  have c1 : ∀ S, callN G gv 0 99 3 [.tup [.str "f".toList, .tup [.str "f".toList, .tup [.str "f".toList, .tup [.str "f".toList, .str "a".toList]]]]] S = .ok (.bl true) S := fun S => by rw [← p1]; exact c_is_term 90 _ S (by decide)
  have c2 : ∀ S, callN G gv 0 99 3 [.tup [.str "f".toList, .tup [.str "f".toList, .tup [.str "f".toList, .tup [.str "f".toList, .tup [.str "f".toList, .str "a".toList]]]]]] S = .ok (.bl false) S := fun S => by rw [← p2]; exact c_is_term 90 _ S (by decide)
  have s1 : exec (C 99) (sL 1) [some (.scr ns), b1, b2, b3, b4, b5, b6, b7, b8, b9] S' = .ok (.ret (.bl true), [some (.scr ns), b1, b2, b3, b4, b5, b6, b7, b8, b9]) S' := by
    simp only [bAnd_t, bAnd_f, bAnd_b, bAnd_c, bOr_t, bOr_f, bOr_b, bIf_t, bIf_f, bndF_ok, bndF_err, e_var, e_int, e_str, e_bl, e_non, e_glob, e_tup, e_lst, e_bin, e_neg, e_not, e_and, e_or, e_cmp, e_chain, e_ife, e_call, e_bi, e_isi, e_mt, e_sub, e_slice, e_rev, e_rng, es_nil, es_cons, eo_none, eo_some, eT, x_asg, x_par, x_expr, x_ret, x_retN, x_if, x_brk, x_cont, x_pass, xs_nil, xs_cons, go_next, go_brk, go_cont, go_ret, cs_eq, cT_none, cT_some, cElt, cI_t, cI_f, bnd_ok, List.getElem?_cons_zero, List.getElem?_cons_succ, optR, isTY, truthy, cmpOp, view, biOp, eqOk_int, eqOk_str, eqOk_bl, eqT_int, eqT_str, if_true, if_false, decide_true, decide_false, Bool.not_true, Bool.not_false, Bool.false_eq_true, id, sliceOf, item, atI_zero, binOp, newList, lstOf, Option.bind, Bool.true_and, Bool.and_true, Bool.false_and, Bool.and_false, Bool.or_true, Bool.true_or, Bool.false_or, Bool.or_false, Option.map, List.set_cons_zero, List.set_cons_succ, MG.asg, MG.asgs, setSlots, sL, b_law, List.getD_cons_zero, List.getD_cons_succ, c1, c2, beq_self_eq_true]
  have he : execs (C 99) b_law [some (.scr ns), none, none, none, none, none, none, none, none, none] [] = .ok (.ret (.bl true), [some (.scr ns), b1, b2, b3, b4, b5, b6, b7, b8, b9]) S' := by
    rw [b_law_eq, execs_next s0, execs_ret s1]
  exact call_fix (fd := d_law.fd) rfl rfl he rfl rfl (fun _ => rfl)
end Lk01
set_option maxHeartbeats 0
namespace Lk01
open PySem PySem.Spec PyProof.Rows L2 Mi
section
abbrev PP : PySem.Program := PySem.Challenge.pw_mendrules_k01_terms
theorem o_is_name : DnOk PP (nmOf ds gs) d_is_name := ⟨sc_of (by decide +kernel), by decide +kernel, fun _ _ _ _ _ _ us hl => match us, hl with | [_, _], _ => rfl⟩
theorem o_is_hole : DnOk PP (nmOf ds gs) d_is_hole := ⟨sc_of (by decide +kernel), by decide +kernel, fun _ _ _ _ _ _ us hl => match us, hl with | [_], _ => rfl⟩
theorem o_is_pattern_at : DnOk PP (nmOf ds gs) d_is_pattern_at := ⟨sc_of (by decide +kernel), by decide +kernel, fun _ _ _ _ _ _ us hl => match us, hl with | [_, _, _], _ => rfl⟩
theorem o_is_term : DnOk PP (nmOf ds gs) d_is_term := ⟨sc_of (by decide +kernel), by decide +kernel, fun _ _ _ _ _ _ us hl => match us, hl with | [_], _ => rfl⟩
theorem o_is_pattern : DnOk PP (nmOf ds gs) d_is_pattern := ⟨sc_of (by decide +kernel), by decide +kernel, fun _ _ _ _ _ _ us hl => match us, hl with | [_], _ => rfl⟩
theorem o__law_cell : DnOk PP (nmOf ds gs) d__law_cell := ⟨sc_of (by decide +kernel), by decide +kernel, fun _ _ _ _ _ _ us hl => match us, hl with | [_, _], _ => rfl⟩
theorem o__law_mix : DnOk PP (nmOf ds gs) d__law_mix := ⟨sc_of (by decide +kernel), by decide +kernel, fun _ _ _ _ _ _ us hl => match us, hl with | [_, _, _], _ => rfl⟩
theorem o__law_leaf : DnOk PP (nmOf ds gs) d__law_leaf := ⟨sc_of (by decide +kernel), by decide +kernel, fun _ _ _ _ _ _ us hl => match us, hl with | [_, _], _ => rfl⟩
theorem o__law_tree : DnOk PP (nmOf ds gs) d__law_tree := ⟨sc_of (by decide +kernel), by decide +kernel, fun _ _ _ _ _ _ us hl => match us, hl with | [_, _, _], _ => rfl⟩
theorem o__law_odd : DnOk PP (nmOf ds gs) d__law_odd := ⟨sc_of (by decide +kernel), by decide +kernel, fun _ _ _ _ _ _ us hl => match us, hl with | [_, _], _ => rfl⟩
theorem o__law_is : DnOk PP (nmOf ds gs) d__law_is := ⟨sc_of (by decide +kernel), by decide +kernel, fun _ _ _ _ _ _ us hl => match us, hl with | [_, _, _], _ => rfl⟩
theorem o_law : DnOk PP (nmOf ds gs) d_law := ⟨sc_of (by decide +kernel), by decide +kernel, fun _ _ _ _ _ _ us hl => match us, hl with | [_], _ => rfl⟩
theorem o_all : ∀ x ∈ ds, DnOk PP (nmOf ds gs) x := by
  intro x hx
  simp only [ds, List.mem_cons, List.not_mem_nil, or_false] at hx
  rcases hx with rfl | rfl | rfl | rfl | rfl | rfl | rfl | rfl | rfl | rfl | rfl | rfl
  · exact o_is_name
  · exact o_is_hole
  · exact o_is_pattern_at
  · exact o_is_term
  · exact o_is_pattern
  · exact o__law_cell
  · exact o__law_mix
  · exact o__law_leaf
  · exact o__law_tree
  · exact o__law_odd
  · exact o__law_is
  · exact o_law
abbrev R : PySem.W.OpenRow := PySem.W.OpenLaw.row PySem.Challenge.rw_mendrules_k01_terms
abbrev hk : PySem.W.Hook := He.hookD 4 (faOf ds gs) (fnL PP ds)
def ob (s : PySem.W.SharedT) : He.AlD := He.obsDG 4 (faOf ds gs) (fnL PP ds) (HandSHeadRun.getT s)
theorem ob_eq (s : PySem.W.SharedT) : ob s = hk.obs s.abs := He.obsDG_eq (HandSHeadRun.getT_eq s)
def loose : List PySem.Str := (["LETTERS", "DEEPEST", "is_name", "is_hole", "is_pattern_at", "is_term", "is_pattern", "_law_cell", "_law_mix", "_law_leaf", "_law_tree", "_law_holes", "_law_fill", "_law_match", "_law_ways", "_law_put", "_law_odd", "_law_is"] : List PySem.Str)
theorem run (w : World) : HandSHeadRun.RunEq R (PySem.W.view R.prog [20]) hk ob 6000 loose w := by
  intro os
  kernel_rfl
end
-- LI 20
end Lk01
set_option maxHeartbeats 0
open PySem PySem.W PySem.Calls PyProof.Rows
theorem PySem.Challenge.cw_mendrules_k01_terms_holds : PySem.Challenge.rw_mendrules_k01_terms.Holds := by
  w_on; o_law
  refine HandSHeadRun.head_any (r := Lk01.R) (q := view Lk01.R.prog [20]) (H := Lk01.hk) (ob := Lk01.ob) (M := 6000) (loose := Lk01.loose) (d := HandSHeadRun.topDef Lk01.R.prog 20) (kwd := []) Lk01.ob_eq
    (by kernel_rfl) (fun s => by kernel_rfl) Lk01.run (by kernel_rfl) (by kernel_rfl) (by kernel_rfl) (by rfl) (by first | assumption | decide +kernel) (by decide +kernel) ⟨rfl, rfl, rfl, rfl, rfl, by decide +kernel⟩ ?hw ?hc
  case hw => w_witness2
  case hc =>
    refine Mi.walk_mi (l := PySem.Challenge.rw_mendrules_k01_terms) (n := 63) (k := Mi.lvl 100) (x := "_law_script") rfl (by decide) (by kernel_rfl) ⟨rfl, by decide, by decide⟩ ?F
    intro w mg fa h Y G hmg0
    obtain ⟨K, KX, c⟩ := Y
    have hmg : mg (Lk01.d_law.name) = some (.ref fa) := by
      have e : (HandSHeadRun.topDef Lk01.R.prog 20).name = Lk01.d_law.name := by kernel_rfl
      rw [← e]
      exact hmg0
    obtain ⟨fd, hb, hF⟩ := Mi.facts_mi (P := Lk01.PP) (w := w) (ds := Lk01.ds) (gs := Lk01.gs) (fuel := 0) (d := 100) (lw := Lk01.d_law) (x := "_law_script") Lk01.o_all (by decide +kernel) rfl rfl Lk01.law_true KX G hmg c
    exact ⟨K, fd, KX, hb, hF⟩
