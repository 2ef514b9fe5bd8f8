import PyProof.Rows.All
import Wide.All
import OpenK.AllK
import Wide.FinOn
import HandS.ForMost
import HandS.TupAny
import HandS.TupMul
import HandS.Deep
import HandS.Conv
import HandS.ListItems
import HandS.SortRule
import HandS.SortInts
import HandS.Zip
import HandS.SetFor
import HandS.IsInst
import HandS.Style
import HandS.RaiseMore
import HandS.Dict
import HandS.Exc
import HandS.TryMany
import HandS.ExcOwn
import HandS.WordsDict
import HandS.Small
import HandS.Lambda
import HandS.TupSets
import PyProof.ExcBaseAll.ValueError
import HandS.Defaults
import HandS.HeadEnd
import HandS.HeadHook2
import HandS.HeadHook4
import HandS.Head2
import PySem.Challenge.RW_nestvault_k02_whole_nests
set_option Elab.async false
set_option linter.all false
/-! NvCore: a small evaluator of the part of Python that the package and its laws are written in: values as trees, changeable things in a memory. -/
namespace NV
open PySem (Str PyData sizeLine)

/-- values: what cannot change as a tree, what can by its place -/
inductive D where
  | non | bl (b : Bool) | int (i : Int) | str (s : Str) | tup (xs : List D) | loc (n : Nat) | fn (i : Nat) | thk | er (c : Nat) (fs : List (Nat × D)) | rol (ns : List Int)

/-- what stands at a place -/
inductive Ob where
  | lst (xs : List D) | dic (kvs : List (D × D)) | ins (c : Nat) (fs : List (Nat × D))

/-- wr: what was stored where places are named: the place, and below what -/
structure Mem where
  objs : List Ob
  wr : List (Nat × Nat)

abbrev Sl := List (Option D)

mutual
/-- no place stands in it -/
def D.nl : D → Bool
  | .loc _ => false
  | .thk => false
  | .er _ _ => false
  | .tup xs => D.nlL xs
  | _ => true
def D.nlL : List D → Bool
  | [] => true
  | x :: xs => x.nl && D.nlL xs
end
def nlKv : List (D × D) → Bool
  | [] => true
  | (k, v) :: r => k.nl && (v.nl && nlKv r)
def nlFs : List (Nat × D) → Bool
  | [] => true
  | (_, v) :: r => v.nl && nlFs r
def Ob.nl : Ob → Bool
  | .lst xs => D.nlL xs
  | .dic kvs => nlKv kvs
  | .ins _ fs => nlFs fs

def Mem.len (m : Mem) : Nat := m.objs.length
def Mem.get (m : Mem) (n : Nat) : Option Ob := m.objs[n]?
def Mem.push (m : Mem) (o : Ob) : Mem := ⟨m.objs ++ [o], m.wr⟩
/-- another content at a place; if places are stored, it is told -/
def Mem.put (m : Mem) (n : Nat) (o : Ob) (nl : Bool) : Mem := ⟨m.objs.set n o, if nl then m.wr else (n, m.objs.length) :: m.wr⟩
def Mem.take (m : Mem) (n : Nat) (w : List (Nat × Nat)) : Mem := ⟨m.objs.take n, w⟩
/-- below what the content of a place names places -/
def limW : List (Nat × Nat) → Nat → Nat
  | [], n => n + 1
  | (k, b) :: r, n => if k = n then max b (limW r n) else limW r n
def eqW : List (Nat × Nat) → List (Nat × Nat) → Bool
  | [], [] => true
  | (a, b) :: r, (c, d) :: s => Nat.beq a c && (Nat.beq b d && eqW r s)
  | _, _ => false
/-- what was told since then tells of new places alone -/
def newW (j : Nat) (w w' : List (Nat × Nat)) : Bool :=
  eqW (w'.drop (w'.length - w.length)) w && (w'.take (w'.length - w.length)).all fun p => Nat.ble j p.1

inductive Rs (α : Type) where
  | ok (a : α) (m : Mem) | exc (c : Nat) (fs : List (Nat × D)) (m : Mem) | stuck
def Rs.bind {α β : Type} (r : Rs α) (f : α → Mem → Rs β) : Rs β :=
  match r with
  | .ok a m => f a m
  | .exc c fs m => .exc c fs m
  | .stuck => .stuck
def Rs.noexc {α : Type} : Rs α → Rs α
  | .ok a m => .ok a m
  | _ => .stuck

/-- what the places of a call, a block or a statement's value leave -/
def cln (m m' : Mem) : Mem := if newW m.len m.wr m'.wr then m'.take m.len m.wr else m'
def clean (m : Mem) (d : D) (m' : Mem) : Rs D :=
  match d.nl with
  | true => .ok d (cln m m')
  | false => (match d with
    | .loc n => (match m'.get n with
      | some o => if newW m.len m.wr m'.wr && (Nat.ble m.len n && o.nl) then .ok (.loc m.len) ((m'.take m.len m.wr).push o) else .ok d m'
      | none => .ok d m')
    | _ => .ok d m')

inductive Pr where
  | add | sub | mul | fdiv | mod | pow | neg
  | eq | ne | lt | le | gt | ge | isN | notN | isB | notB | isIn | notIn
  | idx | len | list | tuple | dict | sum | all | any | sorted | abs | int | bool | str | repr
  | max1 | max2 | min1 | min2 | lenset
  | append | remove | pop0 | pop1 | index | lstItems | get2 | get1 | update | popK
  | isInt | isBool | isTuple | isStr | isList
  deriving DecidableEq

/-- what a for walks -/
inductive IK where
  | seq | rng1 | rng2 | rng3 | zip | enum
  deriving DecidableEq

inductive TG where
  | nm (i : Nat) | tp (ts : List TG)

mutual
inductive CE where
  | var (i : Nat) | int (i : Int) | bl (b : Bool) | non | str (s : Str) | glo (k : Nat) | fnv (k : Nat)
  | pr (p : Pr) (es : List CE) | me (p : Pr) (o : CE) (es : List CE)
  | sl (a : CE) (lo hi : CP) | rev (a : CE)
  | ofT (t : CT) | ite (c : CT) (a b : CE)
  | chain (p q : Pr) (a b c : CE)
  | tup (es : List CE) | lst (es : List CE) | dic (ks vs : List CE)
  | call (f : Nat) (es : List CE) | callV (i : Nat) (es : List CE) | lam (f : Nat) (body : CE) | act (i : Nat)
  | lc (own : List Nat) (tg : TG) (k : IK) (es : List CE) (ts : List CT) (e : CE)
  | lc2 (own own2 : List Nat) (tg : TG) (k : IK) (es : List CE) (ts : List CT) (tg2 : TG) (k2 : IK) (es2 : List CE) (ts2 : List CT) (e : CE)
  | efld (i : Nat) (f : Nat) | isx (i : Nat) (c : Nat)
  | fld (o : CE) (f : Nat) | meth (o : CE) (m : Nat) (es : List CE) | mk (c : Nat) (es : List CE)
  | cl (e : CE)
/-- tests -/
inductive CT where
  | val (e : CE) | not (t : CT) | and (ts : List CT) | or (ts : List CT)
/-- a part of a slice -/
inductive CP where
  | non | at (e : CE)
end

inductive CS where
  | pass | expr (e : CE) | ret (e : CE) | retN | asg (t : TG) (e : CE) | aug (i : Nat) (p : Pr) (e : CE)
  | setIx (o i e : CE) | setFl (o : CE) (f : Nat) (e : CE) | augFl (o : CE) (f : Nat) (p : Pr) (e : CE)
  | ife (c : CT) (a b : List CS) | whl (c : CT) (b : List CS) | for (t : TG) (k : IK) (es : List CE) (b : List CS)
  | brk | rais (c : Nat) (es : List CE) | tr (b : List CS) (hs : List (Nat × Option Nat × List CS))
  | sweep (is : List Nat) (b : List CS)

/-! ### data -/
def mapO {α β : Type} (g : α → Option β) : List α → Option (List β)
  | [] => some []
  | x :: xs => match g x with
    | some y => (match mapO g xs with
      | some ys => some (y :: ys)
      | none => none)
    | none => none

/-- a value read as data -/
def toPy : Nat → Mem → D → Option PyData
  | 0, _, _ => none
  | f + 1, m, d => match d with
    | .non => some .none
    | .bl b => some (.bool b)
    | .int i => some (.int i)
    | .str s => if PyData.strOk s then some (.str s) else none
    | .tup xs => (match mapO (toPy f m) xs with
      | some ys => some (.tuple ys)
      | none => none)
    | .loc n => (match m.get n with
      | some (.lst xs) => (match mapO (toPy f m) xs with
        | some ys => some (.list ys)
        | none => none)
      | _ => none)
    | _ => none
abbrev deepF : Nat := 40

def intOf : D → Option Int
  | .int i => some i
  | _ => none
def blOf : D → Option Bool
  | .bl b => some b
  | _ => none
def strOf : D → Option Str
  | .str s => some s
  | _ => none
def pairOf : D → Option (Int × Int)
  | .tup [.int a, .int b] => some (a, b)
  | _ => none
def kvOf : D → Option (D × D)
  | .tup [.int a, v] => some (.int a, v)
  | .tup [.str a, v] => some (.str a, v)
  | _ => none
def ltP (p q : Int × Int) : Bool := decide (p.1 < q.1) || (decide (p.1 = q.1) && decide (p.2 < q.2))
def insB {α : Type} (lt : α → α → Bool) (x : α) : List α → List α
  | [] => [x]
  | y :: ys => if lt x y then x :: y :: ys else y :: insB lt x ys
def isort {α : Type} (lt : α → α → Bool) : List α → List α
  | [] => []
  | x :: xs => insB lt x (isort lt xs)

def ixI (n : Nat) (i : Int) : Option Nat := if 0 ≤ i then (if i < n then some i.toNat else none) else if -(n : Int) ≤ i then some (i + n).toNat else none
def atD {α : Type} (xs : List α) (i : Int) : Option α := match ixI xs.length i with
  | some j => xs[j]?
  | none => none
def sIx (n d : Nat) : Option Int → Nat
  | none => d
  | some v => if v < 0 then (v + (n : Int)).toNat else min v.toNat n
def cutL {α : Type} (xs : List α) (lo hi : Option Int) : List α := (xs.drop (sIx xs.length 0 lo)).take (sIx xs.length xs.length hi - sIx xs.length 0 lo)

/-- keys of dicts: ints and texts -/
def keyD : D → Bool
  | .int _ => true
  | .str _ => true
  | _ => false
def keyEq : D → D → Bool
  | .int i, .int j => decide (i = j)
  | .str a, .str b => decide (a = b)
  | _, _ => false
def dGet : List (D × D) → D → Option D
  | [], _ => none
  | (k, v) :: r, x => if keyEq k x then some v else dGet r x
def dPut : List (D × D) → D → D → List (D × D)
  | [], x, y => [(x, y)]
  | (k, v) :: r, x, y => if keyEq k x then (k, y) :: r else (k, v) :: dPut r x y
def dPuts : List (D × D) → List (D × D) → List (D × D)
  | acc, [] => acc
  | acc, (k, v) :: r => dPuts (dPut acc k v) r

def seqOf (m : Mem) : D → Option (List D)
  | .tup xs => some xs
  | .loc n => (match m.get n with
    | some (.lst xs) => some xs
    | _ => none)
  | _ => none
def lstOf (m : Mem) : D → Option (List D)
  | .loc n => (match m.get n with
    | some (.lst xs) => some xs
    | _ => none)
  | _ => none

def truthD (m : Mem) : D → Option Bool
  | .non => some false
  | .bl b => some b
  | .int i => some (i != 0)
  | .str s => if s.length ≤ sizeLine then some ((s.length : Int) != 0) else none
  | .tup xs => some (!xs.isEmpty)
  | .loc n => (match m.get n with
    | some (.lst xs) => some (!xs.isEmpty)
    | some (.dic kvs) => some (!kvs.isEmpty)
    | _ => none)
  | _ => none

def okIf (c : Bool) (d : D) (m : Mem) : Rs D := if c then .ok d m else .stuck
def newL (m : Mem) (xs : List D) : Rs D := if xs.length ≤ sizeLine then .ok (.loc m.len) (m.push (.lst xs)) else .stuck
def small64 (i : Int) : Bool := decide (-(2 ^ 64) < i ∧ i < 2 ^ 64)
def eqD (m : Mem) (a b : D) : Option Bool := match toPy deepF m a, toPy deepF m b with
  | some p, some q => some (PyData.eqv p q)
  | _, _ => none
def inD (m : Mem) (x y : D) : Option Bool := match y with
  | .loc n => (match m.get n with
    | some (.dic kvs) => if keyD x then some (dGet kvs x).isSome else none
    | _ => (match toPy deepF m x, toPy deepF m y with
      | some d, some (.list ds) => some (ds.any fun z => PyData.eqv z d)
      | _, _ => none))
  | .tup ys => (match toPy deepF m x, mapO (toPy deepF m) ys with
      | some d, some ds => some (ds.any fun z => PyData.eqv z d)
      | _, _ => none)
  | _ => none
def maxI : Int → List Int → Int
  | a, [] => a
  | a, b :: r => maxI (if a < b then b else a) r
def minI : Int → List Int → Int
  | a, [] => a
  | a, b :: r => minI (if b < a then b else a) r
def indexOf (d : PyData) : List PyData → Nat → Option Nat
  | [], _ => none
  | z :: r, j => if PyData.eqv z d then some j else indexOf d r (j + 1)
def okB (o : Option Bool) (m : Mem) (neg : Bool) : Rs D := match o with
  | some b => .ok (.bl (b != neg)) m
  | none => .stuck

def p_add : List D → Mem → Rs D
  | [.int i, .int j], m => .ok (.int (i + j)) m
  | [.str a, .str b], m => okIf (decide (a.length + b.length ≤ sizeLine)) (.str (a ++ b)) m
  | [.tup a, .tup b], m => okIf (decide (a.length + b.length ≤ sizeLine)) (.tup (a ++ b)) m
  | [.loc a, .loc b], m => (match m.get a, m.get b with
    | some (.lst xs), some (.lst ys) => newL m (xs ++ ys)
    | _, _ => .stuck)
  | _, _ => .stuck
def p_sub : List D → Mem → Rs D
  | [.int i, .int j], m => .ok (.int (i - j)) m
  | _, _ => .stuck
def p_mul : List D → Mem → Rs D
  | [.int i, .int j], m => okIf (small64 i || small64 j) (.int (i * j)) m
  | [.loc a, .int k], m => (match m.get a with
    | some (.lst xs) => if decide (-(2 ^ 63) ≤ k ∧ k < 2 ^ 63 ∧ xs.length * k.toNat ≤ sizeLine) then newL m (List.replicate k.toNat xs).flatten else .stuck
    | _ => .stuck)
  | [.tup xs, .int k], m => okIf (!xs.isEmpty && decide (2 ≤ k ∧ k ≤ 1000 ∧ xs.length ≤ 1000)) (.tup (List.replicate k.toNat xs).flatten) m
  | _, _ => .stuck
def p_fdiv : List D → Mem → Rs D
  | [.int i, .int j], m => okIf (decide (0 < j ∧ j < 1073741824)) (.int (i / j)) m
  | _, _ => .stuck
def p_mod : List D → Mem → Rs D
  | [.int i, .int j], m => okIf (decide (0 < j)) (.int (i % j)) m
  | _, _ => .stuck
def p_pow : List D → Mem → Rs D
  | [.int i, .int j], m => okIf (decide (0 ≤ j ∧ j ≤ 1000000 ∧ i.natAbs < 2 ^ 64)) (.int (i ^ j.toNat)) m
  | _, _ => .stuck
def p_neg : List D → Mem → Rs D
  | [.int i], m => .ok (.int (-i)) m
  | _, _ => .stuck
/-- two lists, one of them empty -/
def nilEq (m : Mem) : D → D → Option Bool
  | .loc a, .loc b => (match m.get a, m.get b with
    | some (.lst xs), some (.lst ys) => if xs.isEmpty || ys.isEmpty then some (xs.isEmpty && ys.isEmpty) else none
    | _, _ => none)
  | _, _ => none
def p_eq : List D → Mem → Rs D
  | [.str a, .str b], m => .ok (.bl (decide (a = b))) m
  | [a, b], m => (match nilEq m a b with
    | some r => .ok (.bl r) m
    | none => okB (eqD m a b) m false)
  | _, _ => .stuck
def p_ne : List D → Mem → Rs D
  | [.str a, .str b], m => .ok (.bl (!decide (a = b))) m
  | [a, b], m => (match nilEq m a b with
    | some r => .ok (.bl (!r)) m
    | none => okB (eqD m a b) m true)
  | _, _ => .stuck
def p_lt : List D → Mem → Rs D
  | [.int i, .int j], m => .ok (.bl (decide (i < j))) m
  | _, _ => .stuck
def p_le : List D → Mem → Rs D
  | [.int i, .int j], m => .ok (.bl (decide (i ≤ j))) m
  | _, _ => .stuck
def p_gt : List D → Mem → Rs D
  | [.int i, .int j], m => .ok (.bl (decide (j < i))) m
  | _, _ => .stuck
def p_ge : List D → Mem → Rs D
  | [.int i, .int j], m => .ok (.bl (decide (j ≤ i))) m
  | _, _ => .stuck
def p_isN : List D → Mem → Rs D
  | [a, .non], m => (match a with
    | .non => .ok (.bl true) m
    | .thk => .stuck
    | .er _ _ => .stuck
    | _ => .ok (.bl false) m)
  | _, _ => .stuck
def p_notN : List D → Mem → Rs D
  | [a, .non], m => (match a with
    | .non => .ok (.bl false) m
    | .thk => .stuck
    | .er _ _ => .stuck
    | _ => .ok (.bl true) m)
  | _, _ => .stuck
def p_isB : List D → Mem → Rs D
  | [.bl a, .bl b], m => .ok (.bl (decide (a = b))) m
  | _, _ => .stuck
def p_notB : List D → Mem → Rs D
  | [.bl a, .bl b], m => .ok (.bl (!decide (a = b))) m
  | _, _ => .stuck
def p_isIn : List D → Mem → Rs D
  | [a, b], m => okB (inD m a b) m false
  | _, _ => .stuck
def p_notIn : List D → Mem → Rs D
  | [a, b], m => okB (inD m a b) m true
  | _, _ => .stuck
def p_idx : List D → Mem → Rs D
  | [a, .int i], m => (match a with
    | .str s => if s.length ≤ sizeLine then (match atD s.cps.toList i with
      | some c => .ok (.str ⟨#[c]⟩) m
      | none => .stuck) else .stuck
    | .tup xs => (match atD xs i with
      | some x => .ok x m
      | none => .stuck)
    | .loc n => (match m.get n with
      | some (.dic kvs) => (match dGet kvs (.int i) with
        | some v => .ok v m
        | none => .stuck)
      | some (.lst xs) => (match atD xs i with
        | some x => .ok x m
        | none => .stuck)
      | _ => .stuck)
    | _ => .stuck)
  | [.loc n, .str s], m => (match m.get n with
    | some (.dic kvs) => (match dGet kvs (.str s) with
      | some v => .ok v m
      | none => .stuck)
    | _ => .stuck)
  | _, _ => .stuck
def p_len : List D → Mem → Rs D
  | [a], m => (match a with
    | .str s => okIf (decide (s.length ≤ sizeLine)) (.int s.length) m
    | .tup xs => .ok (.int xs.length) m
    | .loc n => (match m.get n with
      | some (.lst xs) => .ok (.int xs.length) m
      | some (.dic kvs) => .ok (.int kvs.length) m
      | _ => .stuck)
    | _ => .stuck)
  | _, _ => .stuck
def p_list1 (a : D) (m : Mem) : Rs D := match a with
  | .rol ns => newL m (ns.map .int)
  | .tup xs => newL m xs
  | .loc n => (match m.get n with
    | some (.lst xs) => newL m xs
    | some (.dic kvs) => newL m (kvs.map (·.1))
    | _ => .stuck)
  | _ => .stuck
def p_list : List D → Mem → Rs D
  | [a], m => p_list1 a m
  | _, _ => .stuck
def p_tuple : List D → Mem → Rs D
  | [a], m => (match seqOf m a with
    | some xs => .ok (.tup xs) m
    | none => .stuck)
  | _, _ => .stuck
def p_dict : List D → Mem → Rs D
  | [.loc n], m => (match m.get n with
    | some (.lst xs) => (match mapO kvOf xs with
      | some kvs => .ok (.loc m.len) (m.push (.dic (dPuts [] kvs)))
      | none => .stuck)
    | some (.dic kvs) => .ok (.loc m.len) (m.push (.dic kvs))
    | _ => .stuck)
  | _, _ => .stuck
def p_sum : List D → Mem → Rs D
  | [a], m => (match lstOf m a with
    | some xs => (match mapO intOf xs with
      | some ns => .ok (.int ns.sum) m
      | none => .stuck)
    | none => .stuck)
  | _, _ => .stuck
def p_all : List D → Mem → Rs D
  | [a], m => (match lstOf m a with
    | some xs => (match mapO blOf xs with
      | some bs => .ok (.bl (bs.all id)) m
      | none => .stuck)
    | none => .stuck)
  | _, _ => .stuck
def p_any : List D → Mem → Rs D
  | [a], m => (match lstOf m a with
    | some xs => (match mapO blOf xs with
      | some bs => .ok (.bl (bs.any id)) m
      | none => .stuck)
    | none => .stuck)
  | _, _ => .stuck
/-- the keys of a dict of few ints -/
def keysOf (m : Mem) : D → Option (List Int)
  | .loc n => (match m.get n with
    | some (.dic kvs) => if kvs.length < 64 then mapO intOf (kvs.map (·.1)) else none
    | _ => none)
  | _ => none
def p_sorted : List D → Mem → Rs D
  | [a], m => (match keysOf m a with
    | some ns => newL m ((isort (fun i j => decide (i < j)) ns).map .int)
    | none => match lstOf m a with
    | some xs => (match mapO intOf xs with
      | some ns => newL m ((isort (fun i j => decide (i < j)) ns).map .int)
      | none => (match mapO pairOf xs with
        | some ps => newL m ((isort ltP ps).map fun p => .tup [.int p.1, .int p.2])
        | none => .stuck))
    | none => .stuck)
  | _, _ => .stuck
def p_abs : List D → Mem → Rs D
  | [.int i], m => .ok (.int (if i < 0 then -i else i)) m
  | _, _ => .stuck
def p_int : List D → Mem → Rs D
  | [.int i], m => .ok (.int i) m
  | [.bl b], m => .ok (.int (if b then 1 else 0)) m
  | _, _ => .stuck
def p_bool : List D → Mem → Rs D
  | [.bl b], m => .ok (.bl b) m
  | [.int i], m => .ok (.bl (i != 0)) m
  | _, _ => .stuck
def p_str : List D → Mem → Rs D
  | [.int i], m => okIf (decide (i.natAbs.log2 < 1920)) (.str (toString i)) m
  | [.str s], m => .ok (.str s) m
  | _, _ => .stuck
def p_repr : List D → Mem → Rs D
  | [a], m => (match toPy deepF m a with
    | some p => okIf (PyData.showable p && decide (p.shown.length ≤ sizeLine)) (.str p.shown) m
    | none => .stuck)
  | _, _ => .stuck
def p_max1 : List D → Mem → Rs D
  | [a], m => (match lstOf m a with
    | some xs => (match mapO intOf xs with
      | some (n :: ns) => .ok (.int (maxI n ns)) m
      | _ => .stuck)
    | none => .stuck)
  | _, _ => .stuck
def p_min1 : List D → Mem → Rs D
  | [a], m => (match lstOf m a with
    | some xs => (match mapO intOf xs with
      | some (n :: ns) => .ok (.int (minI n ns)) m
      | _ => .stuck)
    | none => .stuck)
  | _, _ => .stuck
def p_max2 : List D → Mem → Rs D
  | [.int i, .int j], m => .ok (.int (if j > i then j else i)) m
  | _, _ => .stuck
def p_min2 : List D → Mem → Rs D
  | [.int i, .int j], m => .ok (.int (if j < i then j else i)) m
  | _, _ => .stuck
def p_append : List D → Mem → Rs D
  | [.loc n, x], m => (match m.get n with
    | some (.lst xs) => if xs.length < sizeLine then .ok .non (m.put n (.lst (xs ++ [x])) x.nl) else .stuck
    | _ => .stuck)
  | _, _ => .stuck
def p_remove : List D → Mem → Rs D
  | [.loc n, .int k], m => (match m.get n with
    | some (.lst xs) => (match mapO intOf xs with
      | some ns => if ns.contains k then .ok .non (m.put n (.lst ((ns.erase k).map .int)) true) else .stuck
      | none => .stuck)
    | _ => .stuck)
  | _, _ => .stuck
def p_pop0 : List D → Mem → Rs D
  | [.loc n], m => (match m.get n with
    | some (.lst xs) => (match xs.getLast? with
      | some x => .ok x (m.put n (.lst xs.dropLast) true)
      | none => .stuck)
    | _ => .stuck)
  | _, _ => .stuck
def dDrop : List (D × D) → D → List (D × D)
  | [], _ => []
  | (k, v) :: r, x => if keyEq k x then dDrop r x else (k, v) :: dDrop r x
def p_pop1 : List D → Mem → Rs D
  | [.loc n, .int i], m => (match m.get n with
    | some (.lst xs) => (match ixI xs.length i with
      | some j => (match xs[j]? with
        | some y => if -(2 ^ 63) ≤ i ∧ i < 2 ^ 63 then .ok y (m.put n (.lst (xs.eraseIdx j)) true) else .stuck
        | none => .stuck)
      | none => .stuck)
    | _ => .stuck)
  | _, _ => .stuck
def p_popK : List D → Mem → Rs D
  | [.loc n, x], m => (match m.get n with
    | some (.dic kvs) => (match keyD x with
      | true => (match dGet kvs x with
        | some v => .ok v (m.put n (.dic (dDrop kvs x)) true)
        | none => .stuck)
      | false => .stuck)
    | _ => .stuck)
  | _, _ => .stuck
def p_update : List D → Mem → Rs D
  | [.loc n, .loc k], m => (match m.get n, m.get k with
    | some (.dic xs), some (.dic ys) => if n ≠ k ∧ xs.length + ys.length ≤ sizeLine then .ok .non (m.put n (.dic (dPuts xs ys)) (nlKv ys)) else .stuck
    | _, _ => .stuck)
  | _, _ => .stuck
def p_index : List D → Mem → Rs D
  | [a, x], m => (match toPy deepF m a, toPy deepF m x with
    | some (.list ds), some d => (match indexOf d ds 0 with
      | some j => .ok (.int j) m
      | none => .stuck)
    | _, _ => .stuck)
  | _, _ => .stuck
def p_lstItems : List D → Mem → Rs D
  | [.loc n], m => (match m.get n with
    | some (.dic kvs) => newL m (kvs.map fun p => .tup [p.1, p.2])
    | _ => .stuck)
  | _, _ => .stuck
def p_get2 : List D → Mem → Rs D
  | [.loc n, k, d], m => (match m.get n with
    | some (.dic kvs) => if keyD k then .ok ((dGet kvs k).getD d) m else .stuck
    | _ => .stuck)
  | _, _ => .stuck
/-- the unlike ones, in the order in which they are met -/
def dedI : List Int → List Int → List Int
  | acc, [] => acc
  | acc, k :: r => dedI (if acc.any (· == k) then acc else acc ++ [k]) r
def p_lenset : List D → Mem → Rs D
  | [a], m => (match seqOf m a with
    | some xs => (match mapO intOf xs with
      | some ns => okIf (decide (xs.length ≤ 1000)) (.int (dedI [] ns).length) m
      | none => .stuck)
    | none => .stuck)
  | _, _ => .stuck
inductive Ty where
  | non | bl | int | str | tup | lst | dic
/-- a value's built-in type -/
def tyD (m : Mem) : D → Option Ty
  | .non => some .non
  | .bl _ => some .bl
  | .int _ => some .int
  | .str _ => some .str
  | .tup _ => some .tup
  | .loc n => (match m.get n with
    | some (.lst _) => some .lst
    | some (.dic _) => some .dic
    | _ => none)
  | _ => none
def p_is (f : Ty → Bool) : List D → Mem → Rs D
  | [a], m => (match tyD m a with
    | some k => .ok (.bl (f k)) m
    | none => .stuck)
  | _, _ => .stuck
def tInt : Ty → Bool
  | .int => true
  | .bl => true
  | _ => false
def tBool : Ty → Bool
  | .bl => true
  | _ => false
def tTuple : Ty → Bool
  | .tup => true
  | _ => false
def tStr : Ty → Bool
  | .str => true
  | _ => false
def tList : Ty → Bool
  | .lst => true
  | _ => false
/-- an operation on values -/
def prim : Pr → List D → Mem → Rs D
  | .add => p_add
  | .sub => p_sub
  | .mul => p_mul
  | .fdiv => p_fdiv
  | .mod => p_mod
  | .pow => p_pow
  | .neg => p_neg
  | .eq => p_eq
  | .ne => p_ne
  | .lt => p_lt
  | .le => p_le
  | .gt => p_gt
  | .ge => p_ge
  | .isN => p_isN
  | .notN => p_notN
  | .isB => p_isB
  | .notB => p_notB
  | .isIn => p_isIn
  | .notIn => p_notIn
  | .idx => p_idx
  | .len => p_len
  | .list => p_list
  | .tuple => p_tuple
  | .dict => p_dict
  | .sum => p_sum
  | .all => p_all
  | .any => p_any
  | .sorted => p_sorted
  | .abs => p_abs
  | .int => p_int
  | .bool => p_bool
  | .str => p_str
  | .repr => p_repr
  | .max1 => p_max1
  | .min1 => p_min1
  | .max2 => p_max2
  | .min2 => p_min2
  | .append => p_append
  | .remove => p_remove
  | .pop0 => p_pop0
  | .pop1 => p_pop1
  | .popK => p_popK
  | .update => p_update
  | .index => p_index
  | .lstItems => p_lstItems
  | .get2 => p_get2
  | .lenset => p_lenset
  | .isInt => p_is tInt
  | .isBool => p_is tBool
  | .isTuple => p_is tTuple
  | .isStr => p_is tStr
  | .isList => p_is tList
  | _ => fun _ _ => .stuck

/-! ### the evaluator -/
structure Ct where
  call : Nat → List D → Mem → Rs D
  lamc : Nat → (Mem → Rs D) → Mem → Rs D
  thk : Mem → Rs D
  gl : Nat → D
  mth : Nat → Nat → Option Nat
  ini : Nat → Option Nat
  sub : Nat → Nat → Bool
  fok : Nat → Nat → Bool
  fu : Nat

def getS (s : Sl) (i : Nat) : Option D := match s[i]? with
  | some o => o
  | none => none
def setS (s : Sl) (i : Nat) (d : D) : Sl := s.set i (some d)
def wipeS : List Nat → Sl → Sl
  | [], s => s
  | v :: vs, s => (wipeS vs s).set v none

mutual
/-- a value laid into a target -/
def asgT : TG → D → Sl → Option Sl
  | .nm i, d, s => some (setS s i d)
  | .tp ts, d, s => (match d with
    | .tup xs => asgTs ts xs s
    | _ => none)
def asgTs : List TG → List D → Sl → Option Sl
  | [], [], s => some s
  | t :: ts, x :: xs, s => (match asgT t x s with
    | some s' => asgTs ts xs s'
    | none => none)
  | _, _, _ => none
end

/-- what is walked -/
inductive It where
  | fixed (xs : List D) | dyn (n : Nat) | dyn2 (n k : Nat) | dynE (n : Nat)
def rngL (lo c : Int) : Nat → Nat → List D
  | _, 0 => []
  | i, n + 1 => .int (lo + (i : Nat) * c) :: rngL lo c (i + 1) n
def zipD : List D → List D → List D
  | x :: xs, y :: ys => .tup [x, y] :: zipD xs ys
  | _, _ => []
def enumD : Nat → List D → List D
  | _, [] => []
  | i, x :: xs => .tup [.int (i : Nat), x] :: enumD (i + 1) xs
def isLst (m : Mem) (n : Nat) : Bool := match m.get n with
  | some (.lst _) => true
  | _ => false
def inR (i : Int) : Bool := decide (-(2 ^ 62) ≤ i ∧ i < 2 ^ 62)
def itSeq (m : Mem) : List D → Option It
  | [.tup xs] => some (.fixed xs)
  | [.loc n] => if isLst m n then some (.dyn n) else none
  | _ => none
def itR1 : List D → Option It
  | [.int j] => if inR j then some (.fixed (rngL 0 1 0 j.toNat)) else none
  | _ => none
def itR2 : List D → Option It
  | [.int i, .int j] => if inR i && inR j then some (.fixed (rngL i 1 0 (j - i).toNat)) else none
  | _ => none
def itR3 : List D → Option It
  | [.int i, .int j, .int c] => if decide (c = -1) && (inR i && inR j) then some (.fixed (rngL i (-1) 0 (i - j).toNat)) else none
  | _ => none
def itZip (m : Mem) : List D → Option It
  | [.tup xs, .tup ys] => some (.fixed (zipD xs ys))
  | [.loc n, .loc k] => if isLst m n && isLst m k then some (.dyn2 n k) else none
  | _ => none
def itEnum (m : Mem) : List D → Option It
  | [.loc n] => if isLst m n then some (.dynE n) else none
  | _ => none
def itOf (k : IK) (ds : List D) (m : Mem) : Option It :=
  match k with
  | .seq => itSeq m ds
  | .rng1 => itR1 ds
  | .rng2 => itR2 ds
  | .rng3 => itR3 ds
  | .zip => itZip m ds
  | .enum => itEnum m ds
/-- the i-th item by now: stuck, the end, or a value -/
def itAt (it : It) (i : Nat) (m : Mem) : Option (Option D) :=
  match it with
  | .fixed xs => some xs[i]?
  | .dyn n => (match lstOf m (.loc n) with
    | some xs => some xs[i]?
    | none => none)
  | .dyn2 n k => (match lstOf m (.loc n), lstOf m (.loc k) with
    | some xs, some ys => (match xs[i]?, ys[i]? with
      | some x, some y => some (some (.tup [x, y]))
      | _, _ => some none)
    | _, _ => none)
  | .dynE n => (match lstOf m (.loc n) with
    | some xs => (match xs[i]? with
      | some x => some (some (.tup [.int (i : Nat), x]))
      | none => some none)
    | none => none)

/-- a comprehension's turns -/
def lcF (g : D → Mem → Rs (Option D)) : List D → Mem → Rs (List D)
  | [], m => .ok [] m
  | x :: xs, m => (g x m).bind fun o m1 => (lcF g xs m1).bind fun ds m2 => .ok (match o with
    | some d => d :: ds
    | none => ds) m2
def lcI (g : D → Mem → Rs (Option D)) (it : It) : Nat → Nat → Mem → Rs (List D)
  | 0, _, _ => .stuck
  | f + 1, i, m => match itAt it i m with
    | none => .stuck
    | some none => .ok [] m
    | some (some x) => (g x m).bind fun o m1 => (lcI g it f (i + 1) m1).bind fun ds m2 => .ok (match o with
      | some d => d :: ds
      | none => ds) m2
def lcRun (fu : Nat) (g : D → Mem → Rs (Option D)) (it : It) (m : Mem) : Rs (List D) :=
  match it with
  | .fixed xs => lcF g xs m
  | it => lcI g it fu 0 m
/-- .. of two clauses: the inner one yields a row -/
def lcF2 (g : D → Mem → Rs (List D)) : List D → Mem → Rs (List D)
  | [], m => .ok [] m
  | x :: xs, m => (g x m).bind fun o m1 => (lcF2 g xs m1).bind fun ds m2 => .ok (o ++ ds) m2
def lcI2 (g : D → Mem → Rs (List D)) (it : It) : Nat → Nat → Mem → Rs (List D)
  | 0, _, _ => .stuck
  | f + 1, i, m => match itAt it i m with
    | none => .stuck
    | some none => .ok [] m
    | some (some x) => (g x m).bind fun o m1 => (lcI2 g it f (i + 1) m1).bind fun ds m2 => .ok (o ++ ds) m2
def lcRun2 (fu : Nat) (g : D → Mem → Rs (List D)) (it : It) (m : Mem) : Rs (List D) :=
  match it with
  | .fixed xs => lcF2 g xs m
  | it => lcI2 g it fu 0 m
def clnE (m : Mem) (d : D) (m' : Mem) : Rs (Option D) := .ok (some d) (if d.nl then cln m m' else m')
def turnE (tg : TG) (own : List Nat) (s : Sl) (ts : Sl → Mem → Rs Bool) (e : Sl → Mem → Rs D) (x : D) (m : Mem) : Rs (Option D) :=
  match asgT tg x (wipeS own s) with
  | none => .stuck
  | some s' => (ts s' m).noexc.bind fun b m1 => match b with
    | true => (e s' m1).noexc.bind fun d m2 => clnE m d m2
    | false => .ok none (cln m m1)

def sliceD (d : D) (lo hi : Option Int) (m : Mem) : Rs D := match d with
  | .str s => okIf (decide (s.length ≤ sizeLine)) (.str ⟨(cutL s.cps.toList lo hi).toArray⟩) m
  | .tup xs => .ok (.tup (cutL xs lo hi)) m
  | .loc n => (match lstOf m (.loc n) with
    | some xs => .ok (.loc m.len) (m.push (.lst (cutL xs lo hi)))
    | none => .stuck)
  | _ => .stuck
def partO : D → Option (Option Int)
  | .int i => some (some i)
  | _ => none
def fGet : List (Nat × D) → Nat → Option D
  | [], _ => none
  | (k, v) :: r, x => if x == k then some v else fGet r x
def fPut : List (Nat × D) → Nat → D → List (Nat × D)
  | [], x, y => [(x, y)]
  | (k, v) :: r, x, y => if k == x then (k, y) :: r else (k, v) :: fPut r x y
def truthR (d : D) (m : Mem) : Rs Bool := match truthD m d with
  | some b => .ok b m
  | none => .stuck
def boolR (d : D) (m : Mem) : Rs Bool := match d with
  | .bl b => .ok b m
  | _ => .stuck
def dicOf : List D → List D → Option (List (D × D))
  | [], [] => some []
  | k :: ks, v :: vs => if keyD k then (match dicOf ks vs with
    | some r => some ((k, v) :: r)
    | none => none) else none
  | _, _ => none

abbrev Ex := Sl → Mem → Rs D
abbrev ExB := Sl → Mem → Rs Bool
abbrev ExL := Sl → Mem → Rs (List D)
abbrev ExO := Sl → Mem → Rs (Option Int)
def xVar (i : Nat) : Ex := fun s m => match getS s i with
  | some d => .ok d m
  | none => .stuck
def xC (d : D) : Ex := fun _ m => .ok d m
def xPr (p : Pr) (es : ExL) : Ex := fun s m => (es s m).bind (prim p)
def isDic (m : Mem) (n : Nat) : Bool := match m.get n with
  | some (.dic _) => true
  | _ => false
/-- the receiver's kind, for a method -/
def kindOk (p : Pr) (d : D) (m : Mem) : Bool := match d with
  | .loc n => (match p with
    | .get2 => isDic m n
    | .get1 => isDic m n
    | .lstItems => isDic m n
    | .update => isDic m n
    | .popK => isDic m n
    | _ => isLst m n)
  | _ => false
def xMe (p : Pr) (o : Ex) (es : ExL) : Ex := fun s m => (o s m).bind fun d m1 => match kindOk p d m1 with
  | true => (es s m1).bind fun ds m2 => prim p (d :: ds) m2
  | false => .stuck
def xSl (a : Ex) (lo hi : ExO) : Ex := fun s m => (a s m).bind fun d m1 => (lo s m1).bind fun l m2 => (hi s m2).bind fun h m3 => sliceD d l h m3
def revD (d : D) (m : Mem) : Rs D := match lstOf m d with
  | some xs => .ok (.loc m.len) (m.push (.lst xs.reverse))
  | none => .stuck
def xRev (a : Ex) : Ex := fun s m => (a s m).bind revD
def okBl (b : Bool) (m : Mem) : Rs D := .ok (.bl b) m
def xOfT (t : ExB) : Ex := fun s m => (t s m).bind okBl
def xIte (c : ExB) (a b : Ex) : Ex := fun s m => (c s m).bind fun t m1 => match t with
  | true => a s m1
  | false => b s m1
def xChain (p q : Pr) (a b c : Ex) : Ex := fun s m => (a s m).bind fun x m1 => (b s m1).bind fun y m2 => (prim p [x, y] m2).bind fun z m3 => (boolR z m3).bind fun t m4 => match t with
  | true => (c s m4).bind fun w m5 => prim q [y, w] m5
  | false => .ok (.bl false) m4
def okTup (ds : List D) (m : Mem) : Rs D := .ok (.tup ds) m
def okLst (ds : List D) (m : Mem) : Rs D := .ok (.loc m.len) (m.push (.lst ds))
def xTup (es : ExL) : Ex := fun s m => (es s m).bind okTup
def xLst (es : ExL) : Ex := fun s m => (es s m).bind okLst
def xDic (ks vs : List CE) : Ex := fun _ m => match ks, vs with
  | [], [] => .ok (.loc m.len) (m.push (.dic []))
  | _, _ => .stuck
def xCall (C : Ct) (f : Nat) (es : ExL) : Ex := fun s m => (es s m).bind (C.call f)
def xCallV (C : Ct) (i : Nat) (es : ExL) : Ex := fun s m => match getS s i with
  | some (.fn f) => (es s m).bind (C.call f)
  | _ => .stuck
def xLam (C : Ct) (f : Nat) (b : Ex) : Ex := fun s m => C.lamc f (b s) m
def xAct (C : Ct) : Ex := fun _ m => C.thk m
def xLc (C : Ct) (own : List Nat) (tg : TG) (k : IK) (es : ExL) (ts : ExB) (e : Ex) : Ex := fun s m => (es s m).bind fun ds m1 => match itOf k ds m1 with
  | none => .stuck
  | some it => (lcRun C.fu (turnE tg own s ts e) it m1).noexc.bind fun xs m2 => newL m2 xs
def turn2 (C : Ct) (own own2 : List Nat) (tg : TG) (s : Sl) (ts : ExB) (tg2 : TG) (k2 : IK) (es2 : ExL) (ts2 : ExB) (e : Ex) (x : D) (m2 : Mem) : Rs (List D) :=
  match asgT tg x (wipeS own s) with
  | none => .stuck
  | some s' => (ts s' m2).noexc.bind fun b m3 => match b with
    | false => .ok [] (cln m2 m3)
    | true => (es2 s' m3).noexc.bind fun ds2 m4 => match itOf k2 ds2 m4 with
      | none => .stuck
      | some it2 => lcRun C.fu (turnE tg2 own2 s' ts2 e) it2 m4
def xLc2 (C : Ct) (own own2 : List Nat) (tg : TG) (k : IK) (es : ExL) (ts : ExB) (tg2 : TG) (k2 : IK) (es2 : ExL) (ts2 : ExB) (e : Ex) : Ex := fun s m => (es s m).bind fun ds m1 => match itOf k ds m1 with
  | none => .stuck
  | some it => (lcRun2 C.fu (turn2 C own own2 tg s ts tg2 k2 es2 ts2 e) it m1).noexc.bind fun xs m2 => newL m2 xs
def xEfld (i f : Nat) : Ex := fun s m => match getS s i with
  | some (.er _ fs) => (match fGet fs f with
    | some v => .ok v m
    | none => .stuck)
  | _ => .stuck
def xIsx (C : Ct) (i c : Nat) : Ex := fun s m => match getS s i with
  | some (.er c' _) => .ok (.bl (C.sub c' c)) m
  | _ => .stuck
def fldD (C : Ct) (f : Nat) (d : D) (m1 : Mem) : Rs D := match d with
  | .loc n => (match m1.get n with
    | some (.ins c fs) => (match C.fok c f with
      | true => (match fGet fs f with
        | some v => .ok v m1
        | none => .stuck)
      | false => .stuck)
    | _ => .stuck)
  | _ => .stuck
def xFld (C : Ct) (o : Ex) (f : Nat) : Ex := fun s m => (o s m).bind (fldD C f)
/-- a value's method: the class's def, where no attribute hides it -/
def methD (C : Ct) (mm : Nat) (d : D) (m1 : Mem) : Option (Nat × Nat) := match d with
  | .loc n => (match m1.get n with
    | some (.ins c fs) => (match fGet fs mm with
      | none => (match C.mth c mm with
        | some f => some (n, f)
        | none => none)
      | some _ => none)
    | _ => none)
  | _ => none
def xMeth (C : Ct) (o : Ex) (mm : Nat) (es : ExL) : Ex := fun s m => (o s m).bind fun d m1 => match methD C mm d m1 with
  | some (n, f) => (es s m1).bind fun ds m2 => C.call f (.loc n :: ds) m2
  | none => .stuck
def mkR (k : Nat) (r : D) (m : Mem) : Rs D := match r with
  | .non => .ok (.loc k) m
  | _ => .stuck
def xMk (C : Ct) (c : Nat) (es : ExL) : Ex := fun s m => match C.ini c with
  | some f => (es s m).bind fun ds m1 => (C.call f (.loc m1.len :: ds) (m1.push (.ins c []))).bind (mkR m1.len)
  | none => .stuck
def xCl (e : Ex) : Ex := fun s m => (e s m).bind (clean m)
def xNil : ExL := fun _ m => .ok [] m
def xCons (e : Ex) (es : ExL) : ExL := fun s m => (e s m).bind fun d m1 => (es s m1).bind fun ds m2 => .ok (d :: ds) m2
def xNoP : ExO := fun _ m => .ok none m
def intR (d : D) (m : Mem) : Rs (Option Int) := match d with
  | .int n => .ok (some n) m
  | _ => .stuck
def xAt (e : Ex) : ExO := fun s m => (e s m).bind intR
def xCB (b : Bool) : ExB := fun _ m => .ok b m
def xTru (e : Ex) : ExB := fun s m => (e s m).bind truthR
def xBol (e : Ex) : ExB := fun s m => (e s m).bind boolR
def xNot (t : ExB) : ExB := fun s m => (t s m).bind fun b m1 => .ok (!b) m1
def xAnd (t ts : ExB) : ExB := fun s m => (t s m).bind fun b m1 => match b with
  | true => ts s m1
  | false => .ok false m1
def xOr (t ts : ExB) : ExB := fun s m => (t s m).bind fun b m1 => match b with
  | true => .ok true m1
  | false => ts s m1
mutual
def evE (C : Ct) : CE → Ex
  | .var i => xVar i
  | .int i => xC (.int i)
  | .bl b => xC (.bl b)
  | .non => xC .non
  | .str x => xC (.str x)
  | .glo k => xC (C.gl k)
  | .fnv k => xC (.fn k)
  | .pr p es => xPr p (evL C es)
  | .me p o es => xMe p (evE C o) (evL C es)
  | .sl a lo hi => xSl (evE C a) (evO C lo) (evO C hi)
  | .rev a => xRev (evE C a)
  | .ofT t => xOfT (evB C t)
  | .ite c a b => xIte (evT C c) (evE C a) (evE C b)
  | .chain p q a b c => xChain p q (evE C a) (evE C b) (evE C c)
  | .tup es => xTup (evL C es)
  | .lst es => xLst (evL C es)
  | .dic ks vs => xDic ks vs
  | .call f es => xCall C f (evL C es)
  | .callV i es => xCallV C i (evL C es)
  | .lam f b => xLam C f (evE C b)
  | .act _ => xAct C
  | .lc own tg k es ts e => xLc C own tg k (evL C es) (evTs C ts) (evE C e)
  | .lc2 own own2 tg k es ts tg2 k2 es2 ts2 e => xLc2 C own own2 tg k (evL C es) (evTs C ts) tg2 k2 (evL C es2) (evTs C ts2) (evE C e)
  | .efld i f => xEfld i f
  | .isx i c => xIsx C i c
  | .fld o f => xFld C (evE C o) f
  | .meth o mm es => xMeth C (evE C o) mm (evL C es)
  | .mk c es => xMk C c (evL C es)
  | .cl e => xCl (evE C e)
termination_by structural e => e
def evO (C : Ct) : CP → ExO
  | .non => xNoP
  | .at e => xAt (evE C e)
def evL (C : Ct) : List CE → ExL
  | [] => xNil
  | e :: es => xCons (evE C e) (evL C es)
/-- a test, by truth -/
def evT (C : Ct) : CT → ExB
  | .val e => xTru (evE C e)
  | .not a => xNot (evT C a)
  | .and ts => evAnd C ts
  | .or ts => evOr C ts
def evAnd (C : Ct) : List CT → ExB
  | [] => xCB true
  | t :: ts => xAnd (evT C t) (evAnd C ts)
def evOr (C : Ct) : List CT → ExB
  | [] => xCB false
  | t :: ts => xOr (evT C t) (evOr C ts)
/-- .. as a value: truths alone -/
def evB (C : Ct) : CT → ExB
  | .val e => xBol (evE C e)
  | .not a => xNot (evB C a)
  | .and ts => evAndB C ts
  | .or ts => evOrB C ts
def evAndB (C : Ct) : List CT → ExB
  | [] => xCB true
  | t :: ts => xAnd (evB C t) (evAndB C ts)
def evOrB (C : Ct) : List CT → ExB
  | [] => xCB false
  | t :: ts => xOr (evB C t) (evOrB C ts)
/-- the tests of a clause -/
def evTs (C : Ct) : List CT → ExB
  | [] => xCB true
  | t :: _ => evT C t
end

/-! ### statements -/
inductive Rt where
  | next (s : Sl) (m : Mem) | brk (s : Sl) (m : Mem) | ret (d : D) (m : Mem) | exc (c : Nat) (fs : List (Nat × D)) (s : Sl) (m : Mem) | stuck
def Rs.then {α : Type} (r : Rs α) (s : Sl) (f : α → Mem → Rt) : Rt :=
  match r with
  | .ok a m => f a m
  | .exc c fs m => .exc c fs s m
  | .stuck => .stuck
def Rt.and (r : Rt) (f : Sl → Mem → Rt) : Rt :=
  match r with
  | .next s m => f s m
  | r => r
def forF (b : Sl → Mem → Rt) (tg : TG) : List D → Sl → Mem → Rt
  | [], s, m => .next s m
  | x :: xs, s, m => match asgT tg x s with
    | none => .stuck
    | some s1 => match b s1 m with
      | .next s2 m2 => forF b tg xs s2 m2
      | .brk s2 m2 => .next s2 m2
      | r => r
def forI (b : Sl → Mem → Rt) (tg : TG) (it : It) : Nat → Nat → Sl → Mem → Rt
  | 0, _, _, _ => .stuck
  | f + 1, i, s, m => match itAt it i m with
    | none => .stuck
    | some none => .next s m
    | some (some x) => match asgT tg x s with
      | none => .stuck
      | some s1 => match b s1 m with
        | .next s2 m2 => forI b tg it f (i + 1) s2 m2
        | .brk s2 m2 => .next s2 m2
        | r => r
def forRun (fu : Nat) (b : Sl → Mem → Rt) (tg : TG) (it : It) (s : Sl) (m : Mem) : Rt :=
  match it with
  | .fixed xs => forF b tg xs s m
  | it => forI b tg it fu 0 s m
def whlI (t : Sl → Mem → Rs Bool) (b : Sl → Mem → Rt) : Nat → Sl → Mem → Rt
  | 0, _, _ => .stuck
  | f + 1, s, m => (t s m).then s fun c m1 => match c with
    | false => .next s (cln m m1)
    | true => match b s (cln m m1) with
      | .next s2 m2 => whlI t b f s2 m2
      | .brk s2 m2 => .next s2 m2
      | r => r
def augP : Pr → D → D → Mem → Rs D
  | .add, .int i, .int j, m => .ok (.int (i + j)) m
  | .add, .loc a, .loc b, m => (match m.get a, m.get b with
    | some (.lst xs), some (.lst ys) => if xs.length + ys.length ≤ sizeLine then .ok (.loc a) (m.put a (.lst (xs ++ ys)) (D.nlL ys)) else .stuck
    | _, _ => .stuck)
  | .sub, .int i, .int j, m => .ok (.int (i - j)) m
  | _, _, _, _ => .stuck
def setIxD (m : Mem) (o i v : D) : Option Mem := match o with
  | .loc n => (match m.get n with
    | some (.lst xs) => (match i with
      | .int k => (match ixI xs.length k with
        | some j => some (m.put n (.lst (xs.set j v)) v.nl)
        | none => none)
      | _ => none)
    | some (.dic kvs) => if keyD i && decide (kvs.length < sizeLine) then some (m.put n (.dic (dPut kvs i v)) v.nl) else none
    | _ => none)
  | _ => none
def setFlD (C : Ct) (m : Mem) (o : D) (f : Nat) (v : D) : Option Mem := match o with
  | .loc n => (match m.get n with
    | some (.ins c fs) => (match C.fok c f && Nat.ble fs.length 900 with
      | true => some (m.put n (.ins c (fPut fs f v)) v.nl)
      | false => none)
    | _ => none)
  | _ => none
def getFlD (C : Ct) (m : Mem) (o : D) (f : Nat) : Option D := match o with
  | .loc n => (match m.get n with
    | some (.ins c fs) => (match C.fok c f with
      | true => fGet fs f
      | false => none)
    | _ => none)
  | _ => none
def clsOf (m : Mem) : D → Option Nat
  | .loc n => (match m.get n with
    | some (.ins c _) => some c
    | _ => none)
  | _ => none
def sameC (m m' : Mem) (d : D) : Bool := match clsOf m d, clsOf m' d with
  | some a, some b => Nat.beq a b
  | _, _ => false
def setFlS (C : Ct) (m m' : Mem) (o : D) (f : Nat) (v : D) : Option Mem := match sameC m m' o with
  | true => setFlD C m' o f v
  | false => none
def memT (s : Sl) (o : Option Mem) : Rt := match o with
  | some m => .next s m
  | none => .stuck
abbrev Sx := Sl → Mem → Rt
def sPass : Sx := fun s m => .next s m
def sExpr (e : Ex) : Sx := fun s m => (e s m).then s fun _ m1 => .next s (cln m m1)
def sRet (e : Ex) : Sx := fun s m => (e s m).then s .ret
def sAsg (t : TG) (e : Ex) : Sx := fun s m => ((e s m).bind (clean m)).then s fun d m1 => match asgT t d s with
  | some s' => .next s' m1
  | none => .stuck
def sAug (i : Nat) (p : Pr) (e : Ex) : Sx := fun s m => match getS s i with
  | some x => ((e s m).bind fun y m1 => augP p x y m1).then s fun z m2 => (match z.nl with
    | true => .next (setS s i z) (cln m m2)
    | false => .next (setS s i z) m2)
  | none => .stuck
def sSetIx (o i e : Ex) : Sx := fun s m => ((e s m).bind (clean m)).then s fun v m1 => (o s m1).then s fun d m2 => (i s m2).then s fun k m3 => memT s (setIxD m3 d k v)
def sSetFl (C : Ct) (o : Ex) (f : Nat) (e : Ex) : Sx := fun s m => ((e s m).bind (clean m)).then s fun v m1 => (o s m1).then s fun d m2 => memT s (setFlD C m2 d f v)
def sAugFl (C : Ct) (o : Ex) (f : Nat) (p : Pr) (e : Ex) : Sx := fun s m => (o s m).then s fun d m1 => match getFlD C m1 d f with
  | some x => ((e s m1).bind fun y m2 => augP p x y m2).then s fun z m3 => memT s (setFlS C m1 m3 d f z)
  | none => .stuck
def sIf (c : ExB) (a b : Sx) : Sx := fun s m => (c s m).then s fun t m1 => match t with
  | true => a s (cln m m1)
  | false => b s (cln m m1)
def sFor (C : Ct) (t : TG) (k : IK) (es : ExL) (b : Sx) : Sx := fun s m => (es s m).then s fun ds m1 => match itOf k ds m1 with
  | none => .stuck
  | some it => forRun C.fu b t it s m1
def sRaise (c : Nat) (es : ExL) : Sx := fun s m => (es s m).then s fun ds m1 => match ds with
  | [.str _] => .exc c [] s m1
  | _ => .stuck
def sTry (b : Sx) (hs : Nat → List (Nat × D) → Sx) : Sx := fun s m => match b s m with
  | .exc c fs s1 m1 => hs c fs s1 m1
  | r => r
def sSeq (a b : Sx) : Sx := fun s m => (a s m).and b
abbrev Hx := Nat → List (Nat × D) → Sx
def hNil : Hx := fun c fs s m => .exc c fs s m
def noX : Rt → Rt
  | .exc _ _ _ _ => .stuck
  | r => r
def hSuite (i : Option Nat) (b : Sx) : Hx := fun c fs s m => match i with
  | none => noX (b s m)
  | some j => (match b (setS s j (.er c fs)) m with
    | .next s1 m1 => .next (wipeS [j] s1) m1
    | .brk s1 m1 => .brk (wipeS [j] s1) m1
    | r => noX r)
/-- the pairs of classes: (2 c, h) says yes, (2 c + 1, h) no -/
def hCons (C : Ct) (h : Nat) (i : Option Nat) (b : Sx) (hs : Hx) : Hx := fun c fs s m => match C.sub (2 * c) h with
  | true => hSuite i b c fs s m
  | false => (match C.sub (2 * c + 1) h with
    | true => hs c fs s m
    | false => .stuck)
mutual
/-- its places lie below n -/
def D.belB (n : Nat) : D → Bool
  | .tup ds => D.belsB n ds
  | .loc k => Nat.blt k n
  | .er _ _ => false
  | _ => true
def D.belsB (n : Nat) : List D → Bool
  | [] => true
  | d :: ds => d.belB n && D.belsB n ds
end
def belSl (n : Nat) : Sl → Bool
  | [] => true
  | none :: s => belSl n s
  | some d :: s => d.belB n && belSl n s
/-- a block: what it leaves in the slots is, and the memory behind them, are let go -/
def sweepR (is : List Nat) (m : Mem) : Rt → Rt
  | .next s m' => (match belSl m.len (wipeS is s) with
    | true => .next (wipeS is s) (cln m m')
    | false => .next (wipeS is s) m')
  | r => r
def sSweep (is : List Nat) (b : Sx) : Sx := fun s m => sweepR is m (b s m)
mutual
def evS (C : Ct) : CS → Sx
  | .pass => sPass
  | .expr e => sExpr (evE C e)
  | .ret e => sRet (evE C e)
  | .retN => fun _ m => .ret .non m
  | .asg t e => sAsg t (evE C e)
  | .aug i p e => sAug i p (evE C e)
  | .setIx o i e => sSetIx (evE C o) (evE C i) (evE C e)
  | .setFl o f e => sSetFl C (evE C o) f (evE C e)
  | .augFl o f p e => sAugFl C (evE C o) f p (evE C e)
  | .ife c a b => sIf (evT C c) (evSs C a) (evSs C b)
  | .whl c b => whlI (evT C c) (evSs C b) C.fu
  | .for t k es b => sFor C t k (evL C es) (evSs C b)
  | .brk => .brk
  | .rais c es => sRaise c (evL C es)
  | .tr b hs => sTry (evSs C b) (evHs C hs)
  | .sweep is b => sSweep is (evSs C b)
def evSs (C : Ct) : List CS → Sx
  | [] => sPass
  | c :: cs => sSeq (evS C c) (evSs C cs)
def evHs (C : Ct) : List (Nat × Option Nat × List CS) → Hx
  | [] => hNil
  | (h, i, b) :: hs => hCons C h i (evSs C b) (evHs C hs)
end

structure Fd where
  np : Nat
  ns : Nat
  body : List CS
structure Ft where
  fns : List Fd
  gl : List D
  mth : List (Nat × Nat × Nat)
  ini : List (Nat × Nat)
  sub : List (Nat × Nat)
  fok : List (Nat × Nat)
  fu : Nat
  lmk : List Nat
  ltk : List Nat
def hasN : List Nat → Nat → Bool
  | [], _ => false
  | a :: r, k => Nat.beq a k || hasN r k
abbrev LamC : Type := Nat → (Mem → Rs D) → Mem → Rs D
def noLc : LamC := fun _ _ _ => .stuck
/-- only the makers make lambdas -/
def lamF (T : Ft) (l : LamC) (k : Nat) : LamC := match hasN T.lmk k with
  | true => l
  | false => noLc
def lk2 : List (Nat × Nat × Nat) → Nat → Nat → Option Nat
  | [], _, _ => none
  | (a, b, k) :: r, c, f => if Nat.beq a c && Nat.beq b f then some k else lk2 r c f
def lk1 : List (Nat × Nat) → Nat → Option Nat
  | [], _ => none
  | (a, k) :: r, c => if Nat.beq a c then some k else lk1 r c
def has2 : List (Nat × Nat) → Nat → Nat → Bool
  | [], _, _ => false
  | (a, b) :: r, c, f => (Nat.beq a c && Nat.beq b f) || has2 r c f
def startS (fd : Fd) (ds : List D) : Sl := ds.map some ++ List.replicate (fd.ns - ds.length) none
def endR (m : Mem) : Rt → Rs D
  | .next _ m' => clean m .non m'
  | .ret d m' => clean m d m'
  | .exc c fs _ m' => .exc c fs (if nlFs fs then cln m m' else m')
  | _ => .stuck
def runFn (C : Ct) (fd : Fd) (ds : List D) (m : Mem) : Rs D :=
  if ds.length == fd.np then endR m (evSs C fd.body (startS fd ds) m) else .stuck
def ctOf (T : Ft) (call : Nat → List D → Mem → Rs D) (lamc : Nat → (Mem → Rs D) → Mem → Rs D) (thk : Mem → Rs D) : Ct :=
  ⟨call, lamc, thk, fun k => T.gl.getD k .thk, lk2 T.mth, lk1 T.ini, has2 T.sub, has2 T.fok, T.fu⟩
def callL (T : Ft) : Nat → (Nat → List D → Mem → Rs D) × (Nat → (Mem → Rs D) → Mem → Rs D)
  | 0 => (fun _ _ _ => .stuck, fun _ _ _ => .stuck)
  | n + 1 => (fun f ds m => match T.fns[f]? with
      | some fd => runFn (ctOf T (callL T n).1 (lamF T (callL T n).2 f) fun _ => .stuck) fd ds m
      | none => .stuck,
    fun f th m => match hasN T.ltk f with
      | true => (match T.fns[f]? with
        | some fd => runFn (ctOf T (callL T n).1 noLc th) fd [.thk] m
        | none => .stuck)
      | false => .stuck)
def callN (T : Ft) (n : Nat) : Nat → List D → Mem → Rs D := (callL T n).1
end NV

set_option Elab.async false
set_option linter.all false
set_option maxRecDepth 100000
set_option maxHeartbeats 2000000
/-! NvRel: the evaluator's states against the layer's. -/
namespace NV
open PySem PySem.Spec PyProof.Rows L2

/-- the text's things: their addresses, names -/
structure Tx where
  T : Ft
  fa : Nat → Addr
  ca : Nat → Addr
  fln : Nat → Str
  tbs : List (Addr × Str)

abbrev Pl := Nat → Addr

/-- a list of ints that is never written -/
def RoAt (K : PySem.W.Frag) (H : Hp) (a : Addr) (ns : List Int) : Prop :=
  (∃ o, H a = some (.frz o (.lst (ns.map V.int)))) ∨
    ∃ (o : Obj) (its : Array Value) (n : Nat), K.lookup a = some o ∧ o.cls = .type "list" ∧ o.dict = none ∧ o.data = .seq its n ∧ its.size ≤ sizeLine ∧ Vals (ns.map V.int) its.toList
theorem RoAt.sq {K : PySem.W.Frag} {H : Hp} {a : Addr} {ns : List Int} (h : RoAt K H a ns) : SqL K H a (ns.map V.int) := h.elim (fun h => .inl (.inr h)) .inr
mutual
/-- a value stands for a tree -/
def Rep (t : Tx) (K : PySem.W.Frag) (ρ : Pl) (H : Hp) : D → V → Prop
  | .non, v => v = .non
  | .bl b, v => v = .bl b
  | .int i, v => v = .int i
  | .str s, v => v = .str s
  | .tup ds, v => ∃ a vs, v = .ref a ∧ SqT K H a vs ∧ Reps t K ρ H ds vs
  | .loc n, v => v = .ref (ρ n)
  | .fn i, v => v = .ref (t.fa i)
  | .thk, _ => True
  | .er _ _, _ => True
  | .rol ns, v => ∃ a, v = .ref a ∧ RoAt K H a ns
def Reps (t : Tx) (K : PySem.W.Frag) (ρ : Pl) (H : Hp) : List D → List V → Prop
  | [], [] => True
  | d :: ds, v :: vs => Rep t K ρ H d v ∧ Reps t K ρ H ds vs
  | _, _ => False
end
mutual
/-- its places lie below n -/
def D.bel (n : Nat) : D → Prop
  | .tup ds => D.bels n ds
  | .loc k => k < n
  | .er _ fs => belFs n fs
  | _ => True
def D.bels (n : Nat) : List D → Prop
  | [] => True
  | d :: ds => d.bel n ∧ D.bels n ds
def belFs (n : Nat) : List (Nat × D) → Prop
  | [] => True
  | (_, d) :: r => d.bel n ∧ belFs n r
end
def belKv (n : Nat) : List (D × D) → Prop
  | [] => True
  | (k, d) :: r => k.bel n ∧ d.bel n ∧ belKv n r
def Ob.bel (n : Nat) : Ob → Prop
  | .lst xs => D.bels n xs
  | .dic kvs => belKv n kvs
  | .ins _ fs => belFs n fs

/-- what stands at an address stands for what stands at a place -/
def RepKv (t : Tx) (K : PySem.W.Frag) (ρ : Pl) (H : Hp) : List (D × D) → List (Key × V) → Prop
  | [], [] => True
  | (k, d) :: r, (q, v) :: s => Rep t K ρ H k (kV q) ∧ keyD k = true ∧ Rep t K ρ H d v ∧ RepKv t K ρ H r s
  | _, _ => False
def RepFs (t : Tx) (K : PySem.W.Frag) (ρ : Pl) (H : Hp) : List (Nat × D) → List (Str × V) → Prop
  | [], [] => True
  | (k, d) :: r, (q, v) :: s => q = t.fln k ∧ Rep t K ρ H d v ∧ RepFs t K ρ H r s
  | _, _ => False
def RepO (t : Tx) (K : PySem.W.Frag) (ρ : Pl) (H : Hp) (a : Addr) : Ob → Prop
  | .lst ds => ∃ vs, H a = some (.lst vs) ∧ Reps t K ρ H ds vs
  | .dic kvs => ∃ ks, H a = some (.dK ks) ∧ RepKv t K ρ H kvs ks ∧ (ks.map (·.1)).Nodup
  | .ins c fs => ∃ dx gs, H a = some (.ins (t.ca c) dx gs) ∧ RepFs t K ρ H fs gs
def Ob.isRo : Ob → Bool := fun _ => false

structure RelM (t : Tx) (K : PySem.W.Frag) (ρ : Pl) (H : Hp) (m : Mem) : Prop where
  ob : ∀ n o, m.get n = some o → RepO t K ρ H (ρ n) o ∧ o.bel (limW m.wr n)
  inj : ∀ i j oi oj, m.get i = some oi → m.get j = some oj → oi.isRo = false → oj.isRo = false → ρ i = ρ j → i = j
  esc : ∀ p ∈ m.wr, p.2 ≤ m.len
  tbs : ∀ p ∈ t.tbs, LamX.TabS H p.1 p.2

structure RelS (t : Tx) (K : PySem.W.Frag) (ρ : Pl) (H : Hp) (n : Nat) (s : Sl) (σ : L2.St) : Prop where
  len : σ.length = s.length
  slot : ∀ (i : Nat) (d : D), s[i]? = some (some d) → ∃ v, σ[i]? = some (some v) ∧ Rep t K ρ H d v ∧ d.bel n

/-- places and what cannot change are kept -/
structure ExtW (ρ : Pl) (H : Hp) (n : Nat) (ρ' : Pl) (H' : Hp) : Prop where
  pl : ∀ k, k < n → ρ' k = ρ k
  tup : ∀ a xs, H a = some (.tup xs) → H' a = some (.tup xs)
  frz : ∀ a o u, H a = some (.frz o u) → H' a = some (.frz o u)
/-- what stood is kept; what has no place is not touched -/
structure Ext (ρ : Pl) (H : Hp) (n : Nat) (ρ' : Pl) (H' : Hp) (n' : Nat) : Prop where
  pl : ∀ k, k < n → ρ' k = ρ k
  tup : ∀ a xs, H a = some (.tup xs) → H' a = some (.tup xs)
  frz : ∀ a o u, H a = some (.frz o u) → H' a = some (.frz o u)
  frm : ∀ a o, H a = some o → (∀ ps, o ≠ .tbl ps) → (∀ k, k < n → ρ k ≠ a) → H' a = some o
  new : ∀ a o, H a = some o → (∀ ps, o ≠ .tbl ps) → (∀ k, k < n → ρ k ≠ a) → ∀ k, k < n' → ρ' k ≠ a

theorem Ext.w {ρ ρ' : Pl} {H H' : Hp} {n n' : Nat} (e : Ext ρ H n ρ' H' n') : ExtW ρ H n ρ' H' := ⟨e.pl, e.tup, e.frz⟩
theorem Ext.refl {ρ : Pl} {H : Hp} {n : Nat} : Ext ρ H n ρ H n := ⟨fun _ _ => rfl, fun _ _ h => h, fun _ _ _ h => h, fun _ _ h _ _ => h, fun _ _ _ _ h => h⟩
theorem Ext.trans {ρ ρ1 ρ2 : Pl} {H H1 H2 : Hp} {n n1 n2 : Nat} (a : Ext ρ H n ρ1 H1 n1) (b : Ext ρ1 H1 n1 ρ2 H2 n2) (h : n ≤ n1) : Ext ρ H n ρ2 H2 n2 :=
  ⟨fun k hk => (b.pl k (Nat.lt_of_lt_of_le hk h)).trans (a.pl k hk), fun x xs e => b.tup x xs (a.tup x xs e), fun x o u e => b.frz x o u (a.frz x o u e),
    fun x o e z k => b.frm x o (a.frm x o e z k) z (a.new x o e z k), fun x o e z k => b.new x o (a.frm x o e z k) z (a.new x o e z k)⟩
theorem Ext.trim {ρ ρ1 : Pl} {H H1 : Hp} {n n1 n2 : Nat} (a : Ext ρ H n ρ1 H1 n1) (h : n2 ≤ n1) : Ext ρ H n ρ1 H1 n2 :=
  ⟨a.pl, a.tup, a.frz, a.frm, fun x o e z k j hj => a.new x o e z k j (Nat.lt_of_lt_of_le hj h)⟩

section
variable {t : Tx} {K : PySem.W.Frag} {ρ ρ' : Pl} {H H' : Hp} {n n' n2 : Nat}
theorem sqT_ext (e : ExtW ρ H n ρ' H') {a : Addr} {vs : List V} (h : SqT K H a vs) : SqT K H' a vs := by
  rcases h with (h | ⟨o, h⟩) | h
  · exact .inl (.inl (e.tup _ _ h))
  · exact .inl (.inr ⟨o, e.frz _ _ _ h⟩)
  · exact .inr h
mutual
theorem Rep.extW (e : ExtW ρ H n ρ' H') : ∀ (d : D) (v : V), d.bel n → Rep t K ρ H d v → Rep t K ρ' H' d v
  | .non, _, _, h => h
  | .bl _, _, _, h => h
  | .int _, _, _, h => h
  | .str _, _, _, h => h
  | .tup ds, _, hb, ⟨a, vs, h1, h2, h3⟩ => ⟨a, vs, h1, sqT_ext e h2, Reps.extW e ds vs (by simpa only [D.bel] using hb) h3⟩
  | .loc k, v, hb, h => by
    have hb' : k < n := by simpa only [D.bel] using hb
    have h' : v = .ref (ρ k) := by simpa only [Rep] using h
    simp only [Rep]
    rw [h', e.pl k hb']
  | .fn _, _, _, h => h
  | .thk, _, _, _ => by simp only [Rep]
  | .er _ _, _, _, _ => by simp only [Rep]
  | .rol ns, _, _, h => by
    simp only [Rep] at h ⊢
    obtain ⟨a, h1, h2⟩ := h
    refine ⟨a, h1, ?_⟩
    rcases h2 with ⟨o, h2⟩ | h2
    · exact .inl ⟨o, e.frz _ _ _ h2⟩
    · exact .inr h2
theorem Reps.extW (e : ExtW ρ H n ρ' H') : ∀ (ds : List D) (vs : List V), D.bels n ds → Reps t K ρ H ds vs → Reps t K ρ' H' ds vs
  | [], [], _, _ => by simp only [Reps]
  | d :: ds, v :: vs, hb, h => by
    have hb' : d.bel n ∧ D.bels n ds := by simpa only [D.bels] using hb
    have h' : Rep t K ρ H d v ∧ Reps t K ρ H ds vs := by simpa only [Reps] using h
    simp only [Reps]
    exact ⟨Rep.extW e d v hb'.1 h'.1, Reps.extW e ds vs hb'.2 h'.2⟩
  | [], _ :: _, _, h => by simp only [Reps] at h
  | _ :: _, [], _, h => by simp only [Reps] at h
end
mutual
theorem D.bel_le (h : n ≤ n') : ∀ d : D, d.bel n → d.bel n'
  | .non, _ => by simp only [D.bel]
  | .bl _, _ => by simp only [D.bel]
  | .int _, _ => by simp only [D.bel]
  | .str _, _ => by simp only [D.bel]
  | .fn _, _ => by simp only [D.bel]
  | .thk, _ => by simp only [D.bel]
  | .rol _, _ => by simp only [D.bel]
  | .tup ds, hb => by
    simp only [D.bel] at hb ⊢
    exact D.bels_le h ds hb
  | .loc k, hb => by
    simp only [D.bel] at hb ⊢
    omega
  | .er _ fs, hb => by
    simp only [D.bel] at hb ⊢
    exact belFs_le h fs hb
theorem D.bels_le (h : n ≤ n') : ∀ ds : List D, D.bels n ds → D.bels n' ds
  | [], _ => by simp only [D.bels]
  | d :: ds, hb => by
    simp only [D.bels] at hb ⊢
    exact ⟨D.bel_le h d hb.1, D.bels_le h ds hb.2⟩
theorem belFs_le (h : n ≤ n') : ∀ fs : List (Nat × D), belFs n fs → belFs n' fs
  | [], _ => by simp only [belFs]
  | (_, d) :: fs, hb => by
    simp only [belFs] at hb ⊢
    exact ⟨D.bel_le h d hb.1, belFs_le h fs hb.2⟩
end
mutual
theorem D.bel_nl : ∀ d : D, d.nl = true → d.bel n
  | .non, _ => by simp only [D.bel]
  | .bl _, _ => by simp only [D.bel]
  | .int _, _ => by simp only [D.bel]
  | .str _, _ => by simp only [D.bel]
  | .fn _, _ => by simp only [D.bel]
  | .thk, _ => by simp only [D.bel]
  | .rol _, _ => by simp only [D.bel]
  | .tup ds, hb => by
    simp only [D.nl] at hb
    simp only [D.bel]
    exact D.bels_nl ds hb
  | .loc k, hb => by simp [D.nl] at hb
  | .er _ fs, hb => by simp [D.nl] at hb
theorem D.bels_nl : ∀ ds : List D, D.nlL ds = true → D.bels n ds
  | [], _ => by simp only [D.bels]
  | d :: ds, hb => by
    simp only [D.nlL, Bool.and_eq_true] at hb
    simp only [D.bels]
    exact ⟨D.bel_nl d hb.1, D.bels_nl ds hb.2⟩
end
theorem RepKv.extW (e : ExtW ρ H n ρ' H') : ∀ (r : List (D × D)) (s : List (Key × V)), belKv n r → RepKv t K ρ H r s → RepKv t K ρ' H' r s
  | [], [], _, h => h
  | (k, d) :: r, (q, v) :: s, hb, ⟨h1, h2, h3, h4⟩ => ⟨Rep.extW e k _ hb.1 h1, h2, Rep.extW e d v hb.2.1 h3, RepKv.extW e r s hb.2.2 h4⟩
  | [], _ :: _, _, h => h.elim
  | (_, _) :: _, [], _, h => h.elim
theorem RepFs.extW (e : ExtW ρ H n ρ' H') : ∀ (r : List (Nat × D)) (s : List (Str × V)), belFs n r → RepFs t K ρ H r s → RepFs t K ρ' H' r s
  | [], [], _, h => h
  | (k, d) :: r, (q, v) :: s, hb, ⟨h1, h2, h3⟩ => by
    have hb' : d.bel n ∧ belFs n r := by simpa only [belFs] using hb
    exact ⟨h1, Rep.extW e d v hb'.1 h2, RepFs.extW e r s hb'.2 h3⟩
  | [], _ :: _, _, h => h.elim
  | (_, _) :: _, [], _, h => h.elim
theorem belKv_le (h : n ≤ n') : ∀ r : List (D × D), belKv n r → belKv n' r
  | [], _ => trivial
  | (k, d) :: r, hb => ⟨D.bel_le h k hb.1, D.bel_le h d hb.2.1, belKv_le h r hb.2.2⟩
theorem Ob.bel_le (h : n ≤ n') : ∀ o : Ob, o.bel n → o.bel n'
  | .lst xs, hb => D.bels_le h xs hb
  | .dic kvs, hb => belKv_le h kvs hb
  | .ins _ fs, hb => belFs_le h fs hb
theorem belKv_nl : ∀ r : List (D × D), nlKv r = true → belKv n r
  | [], _ => trivial
  | (k, d) :: r, hb => by
    simp only [nlKv, Bool.and_eq_true] at hb
    exact ⟨D.bel_nl k hb.1, D.bel_nl d hb.2.1, belKv_nl r hb.2.2⟩
theorem belFs_nl : ∀ r : List (Nat × D), nlFs r = true → belFs n r
  | [], _ => by simp only [belFs]
  | (k, d) :: r, hb => by
    simp only [nlFs, Bool.and_eq_true] at hb
    simp only [belFs]
    exact ⟨D.bel_nl d hb.1, belFs_nl r hb.2⟩
theorem Ob.bel_nl : ∀ o : Ob, o.nl = true → o.bel n
  | .lst xs, hb => D.bels_nl xs hb
  | .dic kvs, hb => belKv_nl kvs hb
  | .ins _ fs, hb => belFs_nl fs hb
theorem Rep.ext (e : Ext ρ H n ρ' H' n2) (d : D) (v : V) (hb : d.bel n) (h : Rep t K ρ H d v) : Rep t K ρ' H' d v := Rep.extW e.w d v hb h
theorem Reps.ext (e : Ext ρ H n ρ' H' n2) (ds : List D) (vs : List V) (hb : D.bels n ds) (h : Reps t K ρ H ds vs) : Reps t K ρ' H' ds vs := Reps.extW e.w ds vs hb h
theorem RepKv.ext (e : Ext ρ H n ρ' H' n2) (r : List (D × D)) (s : List (Key × V)) (hb : belKv n r) (h : RepKv t K ρ H r s) : RepKv t K ρ' H' r s := RepKv.extW e.w r s hb h
theorem RepFs.ext (e : Ext ρ H n ρ' H' n2) (r : List (Nat × D)) (s : List (Str × V)) (hb : belFs n r) (h : RepFs t K ρ H r s) : RepFs t K ρ' H' r s := RepFs.extW e.w r s hb h
theorem RelS.ext {s : Sl} {σ : L2.St} (r : RelS t K ρ H n s σ) (e : Ext ρ H n ρ' H' n2) (h : n ≤ n') : RelS t K ρ' H' n' s σ :=
  ⟨r.len, fun i d hs => let ⟨v, h1, h2, h3⟩ := r.slot i d hs; ⟨v, h1, Rep.ext e d v h3 h2, D.bel_le h d h3⟩⟩
theorem Reps.length : ∀ {ds : List D} {vs : List V}, Reps t K ρ H ds vs → ds.length = vs.length
  | [], [], _ => rfl
  | d :: ds, v :: vs, h => by
    have h' : Rep t K ρ H d v ∧ Reps t K ρ H ds vs := by simpa only [Reps] using h
    simp only [List.length_cons, Reps.length h'.2]
  | [], _ :: _, h => by simp only [Reps] at h
  | _ :: _, [], h => by simp only [Reps] at h
end

/-! ### what an evaluation promises -/
/-- values of one sort against the evaluator's -/
structure Srt (α β : Type) where
  rp : Tx → PySem.W.Frag → Pl → Hp → α → β → Prop
  bl : Nat → α → Prop
def srD : Srt D V := ⟨Rep, D.bel⟩
def srL : Srt (List D) (List V) := ⟨Reps, D.bels⟩
def srB : Srt Bool Bool := ⟨fun _ _ _ _ a b => b = a, fun _ _ => True⟩
def srO : Srt (Option Int) (Option Int) := ⟨fun _ _ _ _ a b => b = a, fun _ _ => True⟩
/-- the fields of an error -/
def RepX (t : Tx) (K : PySem.W.Frag) (ρ : Pl) (H : Hp) (od : Option Addr) (fs : List (Nat × D)) : Prop :=
  (fs = [] ∧ od = none) ∨ ∃ d gs, od = some d ∧ H d = some (.xd gs) ∧ RepFs t K ρ H fs gs

def RQ {α β : Type} (S : Srt α β) (t : Tx) (K : PySem.W.Frag) (W : XK) (ρ : Pl) (H : Hp) (n : Nat) (r : Rs α) (Q : β → Hp → Prop) : Prop :=
  match r with
  | .ok d m' => ∀ ρ' H' v, Ext ρ H n ρ' H' m'.len → RelM t K ρ' H' m' → S.rp t K ρ' H' d v → S.bl m'.len d → n ≤ m'.len → Q v H'
  | .exc c fs m' => ∀ ρ' H' od, Ext ρ H n ρ' H' m'.len → RelM t K ρ' H' m' → RepX t K ρ' H' od fs → belFs m'.len fs → n ≤ m'.len → W (.ref (t.ca c)) od H'
  | .stuck => False

section
variable {t : Tx} {K : PySem.W.Frag} {ρ ρ1 : Pl} {H H1 : Hp} {n n1 : Nat} {W : XK} {α β γ δ : Type} {S : Srt α β} {S2 : Srt γ δ}
theorem RQ.on {r : Rs α} {Q : β → Hp → Prop} (h : RQ S t K W ρ H n r Q) (e : Ext ρ H n ρ1 H1 n1) (hn : n ≤ n1) : RQ S t K W ρ1 H1 n1 r Q := by
  cases r with
  | ok d m' => exact fun ρ' H' v e' rm rp bl hl => h ρ' H' v (e.trans e' hn) rm rp bl (Nat.le_trans hn hl)
  | exc c fs m' => exact fun ρ' H' od e' rm rx bl hl => h ρ' H' od (e.trans e' hn) rm rx bl (Nat.le_trans hn hl)
  | stuck => exact h
theorem RQ.bindA {ρ0 : Pl} {H0 : Hp} {n0 : Nat} {r : Rs α} {f : α → Mem → Rs γ} {Q : δ → Hp → Prop} {Q1 : β → Hp → Prop} (h : RQ S2 t K W ρ0 H0 n0 (r.bind f) Q) (e0 : Ext ρ0 H0 n0 ρ H n) (h0 : n0 ≤ n)
    (k : ∀ d m1 ρ1 H1 v, r = .ok d m1 → Ext ρ H n ρ1 H1 m1.len → RelM t K ρ1 H1 m1 → S.rp t K ρ1 H1 d v → S.bl m1.len d → n ≤ m1.len → RQ S2 t K W ρ0 H0 n0 (f d m1) Q → Q1 v H1) : RQ S t K W ρ H n r Q1 := by
  cases r with
  | ok d m1 => exact fun ρ1 H1 v e rm rp bl hl => k d m1 ρ1 H1 v rfl e rm rp bl hl h
  | exc c fs m' => exact fun ρ' H' od e' rm rx bl hl => h ρ' H' od (e0.trans e' h0) rm rx bl (Nat.le_trans h0 hl)
  | stuck => exact h
theorem RQ.bind {r : Rs α} {f : α → Mem → Rs γ} {Q : δ → Hp → Prop} {Q1 : β → Hp → Prop} (h : RQ S2 t K W ρ H n (r.bind f) Q)
    (k : ∀ d m1 ρ1 H1 v, r = .ok d m1 → Ext ρ H n ρ1 H1 m1.len → RelM t K ρ1 H1 m1 → S.rp t K ρ1 H1 d v → S.bl m1.len d → n ≤ m1.len → RQ S2 t K W ρ1 H1 m1.len (f d m1) Q → Q1 v H1) : RQ S t K W ρ H n r Q1 := by
  cases r with
  | ok d m1 => exact fun ρ1 H1 v e rm rp bl hl => k d m1 ρ1 H1 v rfl e rm rp bl hl (RQ.on (show RQ S2 t K W ρ H n (f d m1) Q from h) e hl)
  | exc c fs m' => exact h
  | stuck => exact h
theorem RQ.ok {d : α} {m : Mem} {v : β} {Q : β → Hp → Prop} (h : RQ S t K W ρ H m.len (.ok d m) Q) (rm : RelM t K ρ H m) (rp : S.rp t K ρ H d v) (bl : S.bl m.len d) (hl : m.len ≤ m.len) : Q v H :=
  h ρ H v Ext.refl rm rp bl hl
end

/-- the readings of the evaluator's words -/
def WE (W : WX) (σ : L2.St) : XK := fun c d H => W c d σ H
def tX {α β : Type} (S : Srt α β) (t : Tx) (K : PySem.W.Frag) (W : WX) (x : Sl → Mem → Rs α) : L2.St → Hp → (β → Hp → Prop) → Prop := fun σ H Q =>
  ∃ ρ s m, RelM t K ρ H m ∧ RelS t K ρ H m.len s σ ∧ RQ S t K (WE W σ) ρ H m.len (x s m) Q
abbrev tE (t : Tx) (K : PySem.W.Frag) (W : WX) (x : Ex) : TE := tX srD t K W x
abbrev tT (t : Tx) (K : PySem.W.Frag) (W : WX) (x : ExB) : TT := tX srB t K W x
abbrev tA (t : Tx) (K : PySem.W.Frag) (W : WX) (x : ExL) : TA := tX srL t K W x

theorem PE.imp {X : Cx} {e : Expr} {u u' : TE} (h : PE X e u) (i : ∀ σ H Q, u' σ H Q → u σ H Q) : PE X e u' := ⟨fun pins s σ H Q I hq => h.run pins s σ H Q I (i σ H Q hq)⟩
theorem PT.imp {X : Cx} {e : Expr} {u u' : TT} (h : PT X e u) (i : ∀ σ H Q, u' σ H Q → u σ H Q) : PT X e u' := ⟨fun pins s σ H Q I hq => h.run pins s σ H Q I (i σ H Q hq)⟩
theorem PW.imp {X : Cx} {e : Expr} {u u' : TT} (h : PW X e u) (i : ∀ σ H Q, u' σ H Q → u σ H Q) : PW X e u' := ⟨fun wh pins s σ H Q I hq => h.run wh pins s σ H Q I (i σ H Q hq)⟩
theorem PA.imp {X : Cx} {e : List Expr} {u u' : TA} (h : PA X e u) (i : ∀ σ H Q, u' σ H Q → u σ H Q) : PA X e u' := ⟨fun p pins s σ H Q I hq => h.run p pins s σ H Q I (i σ H Q hq)⟩
end NV

set_option Elab.async false
set_option linter.all false
set_option maxRecDepth 100000
set_option maxHeartbeats 2000000
/-! NvMem: what is done to the memory keeps the relation. -/
namespace NV
open PySem PySem.Spec PyProof.Rows L2
section
variable {t : Tx} {K : PySem.W.Frag} {ρ ρ' : Pl} {H H' : Hp} {m : Mem} {n : Nat}
theorem get_lt {o : Ob} (h : m.get n = some o) : n < m.len := (List.getElem?_eq_some_iff.mp h).1
/-- a place's new address -/
def plAt (ρ : Pl) (n : Nat) (a : Addr) : Pl := fun k => if k = n then a else ρ k
theorem plAt_same {a : Addr} : plAt ρ n a n = a := if_pos rfl
theorem plAt_ne {a : Addr} {k : Nat} (h : k ≠ n) : plAt ρ n a k = ρ k := if_neg h
theorem ext_new {p : Addr} {o : HO} (hp : H p = none) : Ext ρ H n ρ (upd H p o) n :=
  ⟨fun _ _ => rfl, fun a xs e => by rw [upd_ne (ne_of_none e hp)]; exact e, fun a ob u e => by rw [upd_ne (ne_of_none e hp)]; exact e, fun a ob e _ _ => by rw [upd_ne (ne_of_none e hp)]; exact e, fun _ _ _ _ k => k⟩
/-- another place for what stood in none -/
theorem Ext.place {ρ1 : Pl} {H1 : Hp} (a : Ext ρ H n ρ1 H1 n) {p : Addr} (hp : H p = none) : Ext ρ H n (plAt ρ1 n p) H1 (n + 1) :=
  ⟨fun k hk => (plAt_ne (Nat.ne_of_lt hk)).trans (a.pl k hk), a.tup, a.frz, a.frm, fun x o e z k j hj => by
    by_cases h : j = n
    · rw [h, plAt_same]
      exact fun w => by rw [w, e] at hp; cases hp
    · rw [plAt_ne h]
      exact a.new x o e z k j (by omega)⟩
theorem ext_newAt {p : Addr} {o : HO} (hp : H p = none) : Ext ρ H n (plAt ρ n p) (upd H p o) (n + 1) := (ext_new hp).place hp
theorem ext_at0 {p : Addr} : Ext ρ H n (plAt ρ n p) H 0 := ⟨fun k hk => plAt_ne (Nat.ne_of_lt hk), fun _ _ e => e, fun _ _ _ e => e, fun _ _ e _ _ => e, fun _ _ _ _ _ k hk => absurd hk (Nat.not_lt_zero k)⟩
theorem some_new {p a : Addr} {o u : HO} (hp : H p = none) (h : H a = some u) : upd H p o a = some u := by rw [upd_ne (ne_of_none h hp)]; exact h
/-- what stands for an object goes on to do so where all that stood stands -/
theorem RepO.keepW {a : Addr} {o : Ob} (e : ExtW ρ H n ρ' H') (hb : o.bel n) (ha : ∀ u, H a = some u → H' a = some u) (h : RepO t K ρ H a o) : RepO t K ρ' H' a o := by
  cases o with
  | lst ds => obtain ⟨vs, h1, h2⟩ := h; exact ⟨vs, ha _ h1, Reps.extW e ds vs hb h2⟩
  | dic kvs => obtain ⟨ks, h1, h2, h3⟩ := h; exact ⟨ks, ha _ h1, RepKv.extW e kvs ks hb h2, h3⟩
  | ins c fs => obtain ⟨dx, gs, h1, h2⟩ := h; exact ⟨dx, gs, ha _ h1, RepFs.extW e fs gs hb h2⟩
theorem RepO.keep {n2 : Nat} {a : Addr} {o : Ob} (e : Ext ρ H n ρ' H' n2) (hb : o.bel n) (ha : ∀ u, H a = some u → H' a = some u) (h : RepO t K ρ H a o) : RepO t K ρ' H' a o := RepO.keepW e.w hb ha h
theorem le_lim : ∀ (w : List (Nat × Nat)) (n : Nat), n + 1 ≤ limW w n
  | [], _ => Nat.le_refl _
  | (k, b) :: r, n => by
    unfold limW
    split
    · exact Nat.le_trans (le_lim r n) (Nat.le_max_right _ _)
    · exact le_lim r n
theorem lim_le {j : Nat} : ∀ {w : List (Nat × Nat)} {n : Nat}, (∀ p ∈ w, p.2 ≤ j) → n < j → limW w n ≤ j
  | [], _, _, h => h
  | (k, b) :: r, n, hw, h => by
    have ih := lim_le (w := r) (n := n) (fun p hp => hw p (List.mem_cons_of_mem _ hp)) h
    unfold limW
    split
    · exact Nat.max_le.mpr ⟨hw (k, b) (List.mem_cons_self ..), ih⟩
    · exact ih
theorem lim_cons {k b n : Nat} {w : List (Nat × Nat)} : limW w n ≤ limW ((k, b) :: w) n := by
  rw [limW]
  split
  · exact Nat.le_max_right _ _
  · exact Nat.le_refl _
theorem lim_hit {b n : Nat} {w : List (Nat × Nat)} : b ≤ limW ((n, b) :: w) n := by
  rw [limW, if_pos rfl]
  exact Nat.le_max_left _ _
theorem lim_miss {n : Nat} : ∀ {w u : List (Nat × Nat)}, (∀ p ∈ u, p.1 ≠ n) → limW (u ++ w) n = limW w n
  | _, [], _ => rfl
  | w, (k, b) :: u, h => by
    show limW ((k, b) :: (u ++ w)) n = _
    rw [limW, if_neg (h (k, b) (List.mem_cons_self ..)), lim_miss fun p hp => h p (List.mem_cons_of_mem _ hp)]
theorem eqW_ok : ∀ {a b : List (Nat × Nat)}, eqW a b = true → a = b
  | [], [], _ => rfl
  | (a, b) :: r, (c, d) :: s, h => by
    simp only [eqW, Bool.and_eq_true] at h
    rw [Nat.eq_of_beq_eq_true h.1, Nat.eq_of_beq_eq_true h.2.1, eqW_ok h.2.2]
  | [], _ :: _, h => by simp [eqW] at h
  | _ :: _, [], h => by simp [eqW] at h
theorem newW_ok {j : Nat} {w w' : List (Nat × Nat)} (h : newW j w w' = true) : ∃ u, w' = u ++ w ∧ ∀ p ∈ u, j ≤ p.1 := by
  unfold newW at h
  rw [Bool.and_eq_true] at h
  refine ⟨w'.take (w'.length - w.length), ?_, fun p hp => Nat.le_of_ble_eq_true (List.all_eq_true.mp h.2 p hp)⟩
  have e := eqW_ok h.1
  have e2 := List.take_append_drop (w'.length - w.length) w'
  rw [e] at e2
  exact e2.symm
theorem max_le_len (rm : RelM t K ρ H m) (hn : n < m.len) : limW m.wr n ≤ m.len := lim_le rm.esc hn
theorem RelM.bel (rm : RelM t K ρ H m) {o : Ob} (h : m.get n = some o) : o.bel m.len := Ob.bel_le (max_le_len rm (get_lt h)) o (rm.ob n o h).2
theorem tbs_new {H : Hp} (h : ∀ p ∈ t.tbs, LamX.TabS H p.1 p.2) {a : Addr} {o : HO} (ha : H a = none) : ∀ p ∈ t.tbs, LamX.TabS (upd H a o) p.1 p.2 :=
  fun p hp => (h p hp).ext fun b u e => by rw [upd_ne (ne_of_none e ha)]; exact e
theorem tab_upd {a P : Addr} {q : Str} {o u : HO} (ha : H a = some u) (h3 : ∀ ps, u ≠ .tbl ps) (h4 : ∀ f, u ≠ .ext f) (h : LamX.TabS H P q) : LamX.TabS (upd H a o) P q := by
  obtain ⟨ps, e, r, k⟩ := h
  refine ⟨ps, by rw [upd_ne (ne_of e ha fun z => h3 ps z.symm)]; exact e, r, fun pos cv hc => ?_⟩
  obtain ⟨c, e1, e2⟩ := k pos cv hc
  refine ⟨c, e1, ?_⟩
  rw [upd_ne (ne_of e2 ha fun z => h4 _ z.symm)]
  exact e2
/-- a new tuple (or another thing of no place): the memory's relation stays -/
theorem RelM.new (rm : RelM t K ρ H m) {p : Addr} {o : HO} (hp : H p = none) : RelM t K ρ (upd H p o) m :=
  ⟨fun k ob h => ⟨RepO.keep (ext_new hp) (rm.bel h) (fun u e => some_new hp e) (rm.ob k ob h).1, (rm.ob k ob h).2⟩, rm.inj, rm.esc, tbs_new rm.tbs hp⟩
theorem get_push {o : Ob} {k : Nat} : (m.push o).get k = if k = m.len then some o else m.get k := by
  unfold Mem.push Mem.get Mem.len
  by_cases h : k = m.objs.length
  · rw [if_pos h, h]; simp
  · rw [if_neg h]
    by_cases h2 : k < m.objs.length
    · rw [List.getElem?_append_left h2]
    · rw [List.getElem?_eq_none (by simp; omega), List.getElem?_eq_none (by omega)]
theorem len_push {o : Ob} : (m.push o).len = m.len + 1 := by unfold Mem.push Mem.len; simp
/-- a new object at a new place -/
theorem RelM.push (rm : RelM t K ρ H m) {p : Addr} {o : HO} {ob : Ob} (hp : H p = none) (ho : RepO t K (plAt ρ m.len p) (upd H p o) p ob) (hb : ob.bel m.len) (tr : ∀ k u, m.get k = some u → u.isRo = false → ∃ x, H (ρ k) = some x) :
    RelM t K (plAt ρ m.len p) (upd H p o) (m.push ob) := by
  refine ⟨fun k u h => ?_, fun i j oi oj h1 h2 r1 r2 e => ?_, ?_, tbs_new rm.tbs hp⟩
  · rw [get_push] at h
    by_cases hk : k = m.len
    · rw [if_pos hk] at h
      cases h
      subst hk
      exact ⟨by rw [plAt_same]; exact ho, Ob.bel_le (Nat.le_trans (Nat.le_succ _) (le_lim m.wr m.len)) _ hb⟩
    · rw [if_neg hk] at h
      obtain ⟨q1, q2⟩ := rm.ob k u h
      refine ⟨?_, q2⟩
      rw [plAt_ne hk]
      exact RepO.keep (n := m.len) (ext_newAt hp) (rm.bel h) (fun _ e => some_new hp e) q1
  · rw [get_push] at h1 h2
    by_cases hi : i = m.len
    · by_cases hj : j = m.len
      · rw [hi, hj]
      · rw [if_neg hj] at h2
        rw [hi, plAt_same, plAt_ne hj] at e
        obtain ⟨x, q⟩ := tr j oj h2 r2
        rw [← e, hp] at q
        cases q
    · rw [if_neg hi] at h1
      by_cases hj : j = m.len
      · rw [hj, plAt_same, plAt_ne hi] at e
        obtain ⟨x, q⟩ := tr i oi h1 r1
        rw [e, hp] at q
        cases q
      · rw [if_neg hj] at h2
        rw [plAt_ne hi, plAt_ne hj] at e
        exact rm.inj i j oi oj h1 h2 r1 r2 e
  · rw [len_push]
    exact fun p hp => Nat.le_succ_of_le (rm.esc p hp)
theorem RelM.tracked (rm : RelM t K ρ H m) (k : Nat) (u : Ob) (h : m.get k = some u) (r : u.isRo = false) : ∃ x, H (ρ k) = some x := by
  have q := (rm.ob k u h).1
  cases u with
  | lst ds => obtain ⟨vs, h1, _⟩ := q; exact ⟨_, h1⟩
  | dic kvs => obtain ⟨ks, h1, _⟩ := q; exact ⟨_, h1⟩
  | ins c fs => obtain ⟨dx, gs, h1, _⟩ := q; exact ⟨_, h1⟩
theorem RelM.pushL (rm : RelM t K ρ H m) {p : Addr} {ds : List D} {vs : List V} (hp : H p = none) (hr : Reps t K ρ H ds vs) (hb : D.bels m.len ds) : RelM t K (plAt ρ m.len p) (upd H p (.lst vs)) (m.push (.lst ds)) :=
  rm.push hp ⟨vs, upd_same, Reps.ext (ext_newAt hp) ds vs hb hr⟩ hb rm.tracked
theorem RelM.pushK (rm : RelM t K ρ H m) {p : Addr} {kvs : List (D × D)} {ks : List (Key × V)} (hp : H p = none) (hr : RepKv t K ρ H kvs ks) (nd : (ks.map (·.1)).Nodup) (hb : belKv m.len kvs) : RelM t K (plAt ρ m.len p) (upd H p (.dK ks)) (m.push (.dic kvs)) :=
  rm.push hp ⟨ks, upd_same, RepKv.ext (ext_newAt hp) kvs ks hb hr, nd⟩ hb rm.tracked

/-! ### what is forgotten -/
theorem get_take {k j : Nat} {w : List (Nat × Nat)} : (m.take j w).get k = if k < j then m.get k else none := by
  unfold Mem.take Mem.get
  by_cases h : k < j
  · rw [if_pos h, List.getElem?_take_of_lt h]
  · rw [if_neg h, List.getElem?_eq_none (by simp; omega)]
theorem len_take {j : Nat} {w : List (Nat × Nat)} (h : j ≤ m.len) : (m.take j w).len = j := by
  unfold Mem.take Mem.len at *
  rw [List.length_take]
  exact Nat.min_eq_left h
theorem RelM.take (rm : RelM t K ρ H m) {j : Nat} {w : List (Nat × Nat)} (h : j ≤ m.len) (hw : newW j w m.wr = true) (he : ∀ p ∈ w, p.2 ≤ j) : RelM t K ρ H (m.take j w) := by
  obtain ⟨u, e, hu⟩ := newW_ok hw
  refine ⟨fun k ob hk => ?_, fun i l oi ol h1 h2 r1 r2 e => ?_, ?_, rm.tbs⟩
  · rw [get_take] at hk
    by_cases hj : k < j
    · rw [if_pos hj] at hk
      obtain ⟨q1, q2⟩ := rm.ob k ob hk
      rw [e, lim_miss fun p hp z => by have := hu p hp; omega] at q2
      exact ⟨q1, q2⟩
    · rw [if_neg hj] at hk
      cases hk
  · rw [get_take] at h1 h2
    by_cases hi : i < j
    · by_cases hl : l < j
      · rw [if_pos hi] at h1
        rw [if_pos hl] at h2
        exact rm.inj i l oi ol h1 h2 r1 r2 e
      · rw [if_neg hl] at h2
        cases h2
    · rw [if_neg hi] at h1
      cases h1
  · rw [len_take h]
    exact he
/-- the memory behind a block whose value has no place -/
theorem cln_ok {m' : Mem} (rm' : RelM t K ρ H m') (he : ∀ p ∈ m.wr, p.2 ≤ m.len) (hl : m.len ≤ m'.len) : RelM t K ρ H (cln m m') ∧ m.len ≤ (cln m m').len := by
  unfold cln
  by_cases h : newW m.len m.wr m'.wr = true
  · rw [if_pos h]
    exact ⟨rm'.take hl h he, by rw [len_take hl]; exact Nat.le_refl _⟩
  · rw [if_neg h]
    exact ⟨rm', hl⟩
/-! ### what is written -/
theorem get_put {o : Ob} {nl : Bool} {k j : Nat} (h : j < m.len) : (m.put j o nl).get k = if k = j then some o else m.get k := by
  unfold Mem.put Mem.get
  by_cases hk : k = j
  · rw [if_pos hk, hk]
    rw [List.getElem?_set_self h]
  · rw [if_neg hk, List.getElem?_set_ne (Ne.symm hk)]
theorem len_put {o : Ob} {nl : Bool} {j : Nat} : (m.put j o nl).len = m.len := by unfold Mem.put Mem.len; simp
theorem ext_put {j : Nat} {o u : HO} (hj : j < n) (ha : H (ρ j) = some u) (h1 : ∀ xs, u ≠ .tup xs) (h2 : ∀ ob w, u ≠ .frz ob w) (h3 : ∀ ps, u ≠ .tbl ps := by intro _ z; cases z) (h4 : ∀ f, u ≠ .ext f := by intro _ z; cases z) : Ext ρ H n ρ (upd H (ρ j) o) n :=
  ⟨fun _ _ => rfl, fun b xs e => by rw [upd_ne (ne_of e ha fun z => h1 xs z.symm)]; exact e, fun b ob w e => by rw [upd_ne (ne_of e ha fun z => h2 ob w z.symm)]; exact e,
    fun b w e _ k => by rw [upd_ne (fun z => k j hj z.symm)]; exact e, fun _ _ _ _ k => k⟩
theorem RelM.put (rm : RelM t K ρ H m) {j : Nat} {o o2 : Ob} {u v : HO} {nl : Bool} (hj : m.get j = some o) (hr : o.isRo = false) (hr2 : o2.isRo = false) (hu : H (ρ j) = some u) (h1 : ∀ xs, u ≠ .tup xs) (h2 : ∀ ob w, u ≠ .frz ob w)
    (hn : RepO t K ρ (upd H (ρ j) v) (ρ j) o2) (hb : if nl then o2.bel (limW m.wr j) else o2.bel m.len) (h3 : ∀ ps, u ≠ .tbl ps := by intro _ z; cases z) (h4 : ∀ f, u ≠ .ext f := by intro _ z; cases z) : RelM t K ρ (upd H (ρ j) v) (m.put j o2 nl) := by
  have hlt := get_lt hj
  have he : (∀ k, limW m.wr k ≤ limW (m.put j o2 nl).wr k) ∧ ∀ p ∈ (m.put j o2 nl).wr, p.2 ≤ m.len := by
    unfold Mem.put
    cases nl
    · simp only [Bool.false_eq_true, if_false]
      exact ⟨fun k => lim_cons, fun p hp => by
        rcases List.mem_cons.mp hp with e | hp
        · rw [e]; exact Nat.le_refl _
        · exact rm.esc p hp⟩
    · simp only [if_true]
      exact ⟨fun k => Nat.le_refl _, rm.esc⟩
  refine ⟨fun k w hk => ?_, fun a b oa ob ha hb2 ra rb e => ?_, by rw [len_put]; exact he.2, fun p hp => tab_upd hu h3 h4 (rm.tbs p hp)⟩
  · rw [get_put hlt] at hk
    by_cases hkj : k = j
    · rw [if_pos hkj] at hk
      cases hk
      subst hkj
      refine ⟨hn, ?_⟩
      cases nl
      · have q : o2.bel m.len := by simpa using hb
        exact Ob.bel_le (lim_hit (w := m.wr)) _ q
      · have q : o2.bel (limW m.wr k) := by simpa using hb
        exact q
    · rw [if_neg hkj] at hk
      obtain ⟨q1, q2⟩ := rm.ob k w hk
      refine ⟨?_, Ob.bel_le ?_ _ q2⟩
      · by_cases ek : ρ k = ρ j
        · cases w with
          | lst ds => exact absurd (rm.inj k j _ _ hk hj rfl hr ek) hkj
          | dic ds => exact absurd (rm.inj k j _ _ hk hj rfl hr ek) hkj
          | ins c ds => exact absurd (rm.inj k j _ _ hk hj rfl hr ek) hkj
        · exact RepO.keep (n := m.len) (ext_put hlt hu h1 h2 h3 h4) (rm.bel hk) (fun x e => by rw [upd_ne ek]; exact e) q1
      · exact he.1 k
  · rw [get_put hlt] at ha hb2
    have oj : o2.isRo = false := hr2
    by_cases haj : a = j
    · by_cases hbj : b = j
      · rw [haj, hbj]
      · rw [if_neg hbj] at hb2
        rw [haj] at e
        exact haj.trans (rm.inj j b o ob hj hb2 hr rb e)
    · rw [if_neg haj] at ha
      by_cases hbj : b = j
      · rw [hbj] at e
        exact (rm.inj a j oa o ha hj ra hr e).trans hbj.symm
      · rw [if_neg hbj] at hb2
        exact rm.inj a b oa ob ha hb2 ra rb e
/-- a list of no place is rewritten -/
theorem extW_other {a : Addr} {u v : HO} (ha : H a = some u) (h1 : ∀ xs, u ≠ .tup xs) (h2 : ∀ ob w, u ≠ .frz ob w) : ExtW ρ H n ρ (upd H a v) :=
  ⟨fun _ _ => rfl, fun b xs e => by rw [upd_ne (ne_of e ha fun z => h1 xs z.symm)]; exact e, fun b ob w e => by rw [upd_ne (ne_of e ha fun z => h2 ob w z.symm)]; exact e⟩
theorem RelM.other (rm : RelM t K ρ H m) {a : Addr} {u v : HO} (ha : H a = some u) (h1 : ∀ xs, u ≠ .tup xs) (h2 : ∀ ob w, u ≠ .frz ob w) (hp : ∀ k, k < m.len → ρ k ≠ a) (h3 : ∀ ps, u ≠ .tbl ps := by intro _ z; cases z) (h4 : ∀ f, u ≠ .ext f := by intro _ z; cases z) : RelM t K ρ (upd H a v) m :=
  ⟨fun k ob h => ⟨RepO.keepW (n := m.len) (extW_other ha h1 h2) (rm.bel h) (fun w e => by rw [upd_ne (hp k (get_lt h))]; exact e) (rm.ob k ob h).1, (rm.ob k ob h).2⟩, rm.inj, rm.esc, fun p hp => tab_upd ha h3 h4 (rm.tbs p hp)⟩
end
end NV

set_option Elab.async false
set_option linter.all false
set_option maxRecDepth 100000
set_option maxHeartbeats 4000000
/-! NvPrim: the operations on values against the layer's. -/
namespace NV
open PySem PySem.Spec PyProof.Rows L2
section
variable {t : Tx} {K : PySem.W.Frag} {ρ : Pl} {H : Hp} {m : Mem} {n : Nat} {W : XK} {Q : VK}
theorem RQ.okIf {c : Bool} {d : D} (h : RQ srD t K W ρ H n (okIf c d m) Q) : c = true ∧ RQ srD t K W ρ H n (.ok d m) Q := by
  cases c with
  | true => exact ⟨rfl, h⟩
  | false => exact False.elim h
theorem RQ.iteN {c : Prop} [Decidable c] {r : Rs D} (h : RQ srD t K W ρ H n (if c then r else .stuck) Q) : c ∧ RQ srD t K W ρ H n r Q := by
  by_cases hc : c
  · rw [if_pos hc] at h
    exact ⟨hc, h⟩
  · rw [if_neg hc] at h
    exact False.elim h
theorem ext_push {p : Addr} {o : HO} {ob : Ob} (hp : H p = none) : Ext ρ H m.len (plAt ρ m.len p) (upd H p o) (m.push ob).len := by
  rw [len_push]
  exact ext_newAt hp
/-- a value of no place of its own -/
theorem RQ.val {d : D} {v : V} (h : RQ srD t K W ρ H m.len (.ok d m) Q) (rm : RelM t K ρ H m) (rp : Rep t K ρ H d v) (bl : d.bel m.len) : Q v H := RQ.ok h rm rp bl (Nat.le_refl _)
theorem RQ.newT {ds : List D} {vs : List V} (h : RQ srD t K W ρ H m.len (.ok (.tup ds) m) Q) (rm : RelM t K ρ H m) (rp : Reps t K ρ H ds vs) (bl : D.bels m.len ds) : ∀ p, H p = none → Q (.ref p) (upd H p (.tup vs)) := fun p hp => by
  refine h ρ _ _ (ext_new hp) (rm.new hp) ?_ ?_ (Nat.le_refl _)
  · show Rep t K ρ _ (.tup ds) _
    simp only [Rep]
    exact ⟨p, vs, rfl, .inl (.inl upd_same), Reps.ext (ext_new (n := m.len) hp) ds vs bl rp⟩
  · show D.bel _ (.tup ds)
    simpa only [D.bel] using bl
theorem RQ.newLst {ds : List D} {vs : List V} (h : RQ srD t K W ρ H m.len (.ok (.loc m.len) (m.push (.lst ds))) Q) (rm : RelM t K ρ H m) (rp : Reps t K ρ H ds vs) (bl : D.bels m.len ds) : ∀ p, H p = none → Q (.ref p) (upd H p (.lst vs)) := fun p hp => by
  refine h (plAt ρ m.len p) _ _ (ext_push hp) (rm.pushL hp rp bl) ?_ ?_ (by rw [len_push]; exact Nat.le_succ _)
  · show Rep t K (plAt ρ m.len p) (upd H p (.lst vs)) (.loc m.len) (.ref p)
    simp only [Rep]
    rw [plAt_same]
  · show D.bel _ (.loc m.len)
    simp only [D.bel]
    rw [len_push]
    exact Nat.lt_succ_self _
theorem RQ.newL {ds : List D} {vs : List V} (h : RQ srD t K W ρ H m.len (NV.newL m ds) Q) (rm : RelM t K ρ H m) (rp : Reps t K ρ H ds vs) (bl : D.bels m.len ds) : vs.length ≤ sizeLine ∧ ∀ p, H p = none → Q (.ref p) (upd H p (.lst vs)) := by
  obtain ⟨h1, h2⟩ := RQ.iteN h
  exact ⟨by rw [← rp.length]; exact h1, RQ.newLst h2 rm rp bl⟩
theorem RQ.newK {kvs : List (D × D)} {ks : List (Key × V)} (h : RQ srD t K W ρ H m.len (.ok (.loc m.len) (m.push (.dic kvs))) Q) (rm : RelM t K ρ H m) (rp : RepKv t K ρ H kvs ks) (nd : (ks.map (·.1)).Nodup) (bl : belKv m.len kvs) : ∀ p, H p = none → Q (.ref p) (upd H p (.dK ks)) := fun p hp => by
  refine h (plAt ρ m.len p) _ _ (ext_push hp) (rm.pushK hp rp nd bl) ?_ ?_ (by rw [len_push]; exact Nat.le_succ _)
  · show Rep t K (plAt ρ m.len p) (upd H p (.dK ks)) (.loc m.len) (.ref p)
    simp only [Rep]
    rw [plAt_same]
  · show D.bel _ (.loc m.len)
    simp only [D.bel]
    rw [len_push]
    exact Nat.lt_succ_self _

/-! ### reading the memory -/
theorem rep_loc {k : Nat} {v : V} (h : Rep t K ρ H (.loc k) v) : v = .ref (ρ k) := by simpa only [Rep] using h
theorem rep_int {i : Int} {v : V} (h : Rep t K ρ H (.int i) v) : v = .int i := by simpa only [Rep] using h
theorem rep_bl {i : Bool} {v : V} (h : Rep t K ρ H (.bl i) v) : v = .bl i := by simpa only [Rep] using h
theorem rep_str {i : Str} {v : V} (h : Rep t K ρ H (.str i) v) : v = .str i := by simpa only [Rep] using h
theorem rep_non {v : V} (h : Rep t K ρ H .non v) : v = .non := by simpa only [Rep] using h
theorem rep_tup {ds : List D} {v : V} (h : Rep t K ρ H (.tup ds) v) : ∃ a vs, v = .ref a ∧ SqT K H a vs ∧ Reps t K ρ H ds vs := by simpa only [Rep] using h
theorem bel_tup {ds : List D} (h : D.bel n (.tup ds)) : D.bels n ds := by simpa only [D.bel] using h
theorem reps_two {x y : D} {vs : List V} (h : Reps t K ρ H [x, y] vs) : ∃ v u, vs = [v, u] ∧ Rep t K ρ H x v ∧ Rep t K ρ H y u := by
  match vs, h with
  | [v, u], h =>
    simp only [Reps, and_true] at h
    exact ⟨v, u, rfl, h.1, h.2⟩
  | [], h => simp [Reps] at h
  | [_], h => simp [Reps] at h
  | _ :: _ :: _ :: _, h => simp [Reps] at h
theorem reps_one {x : D} {vs : List V} (h : Reps t K ρ H [x] vs) : ∃ v, vs = [v] ∧ Rep t K ρ H x v := by
  match vs, h with
  | [v], h =>
    simp only [Reps, and_true] at h
    exact ⟨v, rfl, h⟩
  | [], h => simp [Reps] at h
  | _ :: _ :: _, h => simp [Reps] at h
theorem reps_three {x y z : D} {vs : List V} (h : Reps t K ρ H [x, y, z] vs) : ∃ v u w, vs = [v, u, w] ∧ Rep t K ρ H x v ∧ Rep t K ρ H y u ∧ Rep t K ρ H z w := by
  match vs, h with
  | [v, u, w], h =>
    simp only [Reps, and_true] at h
    exact ⟨v, u, w, rfl, h.1, h.2.1, h.2.2⟩
  | [], h => simp [Reps] at h
  | [_], h => simp [Reps] at h
  | [_, _], h => simp [Reps] at h
  | _ :: _ :: _ :: _ :: _, h => simp [Reps] at h
theorem Reps.append : ∀ {xs ys : List D} {vs us : List V}, Reps t K ρ H xs vs → Reps t K ρ H ys us → Reps t K ρ H (xs ++ ys) (vs ++ us)
  | [], _, [], _, _, h => h
  | x :: xs, ys, v :: vs, us, h, g => by
    simp only [Reps] at h
    simp only [List.cons_append, Reps]
    exact ⟨h.1, Reps.append h.2 g⟩
  | [], _, _ :: _, _, h, _ => by simp [Reps] at h
  | _ :: _, _, [], _, h, _ => by simp [Reps] at h
theorem bels_append : ∀ {xs ys : List D}, D.bels n xs → D.bels n ys → D.bels n (xs ++ ys)
  | [], _, _, h => h
  | x :: xs, ys, h, g => by
    simp only [D.bels] at h
    simp only [List.cons_append, D.bels]
    exact ⟨h.1, bels_append h.2 g⟩
theorem Reps.get : ∀ {xs : List D} {vs : List V} {i : Nat} {x : D}, Reps t K ρ H xs vs → xs[i]? = some x → ∃ v, vs[i]? = some v ∧ Rep t K ρ H x v
  | [], _, _, _, _, h => by simp at h
  | x :: xs, v :: vs, 0, y, h, g => by
    simp only [Reps] at h
    simp at g
    subst g
    exact ⟨v, rfl, h.1⟩
  | x :: xs, v :: vs, i + 1, y, h, g => by
    simp only [Reps] at h
    obtain ⟨u, h1, h2⟩ := Reps.get (i := i) h.2 (by simpa using g)
    exact ⟨u, by simpa using h1, h2⟩
  | _ :: _, [], _, _, h, _ => by simp [Reps] at h
theorem bels_get : ∀ {xs : List D} {i : Nat} {x : D}, D.bels n xs → xs[i]? = some x → x.bel n
  | [], _, _, _, h => by simp at h
  | x :: xs, 0, y, h, g => by
    simp only [D.bels] at h
    simp at g
    subst g
    exact h.1
  | x :: xs, i + 1, y, h, g => by
    simp only [D.bels] at h
    exact bels_get (i := i) h.2 (by simpa using g)
theorem Reps.take : ∀ (k : Nat) {xs : List D} {vs : List V}, Reps t K ρ H xs vs → Reps t K ρ H (xs.take k) (vs.take k)
  | 0, _, _, _ => by simp [Reps]
  | k + 1, [], [], h => by simp [Reps]
  | k + 1, x :: xs, v :: vs, h => by
    simp only [Reps] at h
    simp only [List.take_succ_cons, Reps]
    exact ⟨h.1, Reps.take k h.2⟩
  | _ + 1, [], _ :: _, h => by simp [Reps] at h
  | _ + 1, _ :: _, [], h => by simp [Reps] at h
theorem Reps.drop : ∀ (k : Nat) {xs : List D} {vs : List V}, Reps t K ρ H xs vs → Reps t K ρ H (xs.drop k) (vs.drop k)
  | 0, _, _, h => h
  | k + 1, [], [], h => by simp [Reps]
  | k + 1, x :: xs, v :: vs, h => by
    simp only [Reps] at h
    simp only [List.drop_succ_cons]
    exact Reps.drop k h.2
  | _ + 1, [], _ :: _, h => by simp [Reps] at h
  | _ + 1, _ :: _, [], h => by simp [Reps] at h
theorem bels_iff : ∀ {xs : List D}, D.bels n xs ↔ ∀ x ∈ xs, x.bel n
  | [] => by simp [D.bels]
  | x :: xs => by
    simp only [D.bels, List.forall_mem_cons]
    rw [bels_iff (xs := xs)]
theorem Reps.rev : ∀ {xs : List D} {vs : List V}, Reps t K ρ H xs vs → Reps t K ρ H xs.reverse vs.reverse
  | [], [], _ => by simp [Reps]
  | x :: xs, v :: vs, h => by
    simp only [Reps] at h
    simp only [List.reverse_cons]
    exact Reps.append (Reps.rev h.2) (by simp only [Reps]; exact ⟨h.1, trivial⟩)
  | [], _ :: _, h => by simp [Reps] at h
  | _ :: _, [], h => by simp [Reps] at h
theorem Reps.ints : ∀ (ns : List Int), Reps t K ρ H (ns.map D.int) (ns.map V.int)
  | [] => by simp [Reps]
  | n :: ns => by
    simp only [List.map_cons, Reps, Rep, true_and]
    exact Reps.ints ns
theorem bels_ints (ns : List Int) : D.bels n (ns.map D.int) := bels_iff.mpr fun x hx => by
  obtain ⟨i, _, rfl⟩ := List.mem_map.mp hx
  simp only [D.bel]
/-- a list at a place -/
theorem get_lst (rm : RelM t K ρ H m) {k : Nat} {ds : List D} (h : m.get k = some (.lst ds)) : ∃ vs, H (ρ k) = some (.lst vs) ∧ Reps t K ρ H ds vs ∧ D.bels m.len ds := by
  obtain ⟨vs, h1, h2⟩ := (rm.ob k _ h).1
  exact ⟨vs, h1, h2, rm.bel h⟩
theorem get_dic (rm : RelM t K ρ H m) {k : Nat} {ds : List (D × D)} (h : m.get k = some (.dic ds)) : ∃ vs, H (ρ k) = some (.dK vs) ∧ RepKv t K ρ H ds vs ∧ (vs.map (·.1)).Nodup ∧ belKv m.len ds := by
  obtain ⟨vs, h1, h2, h3⟩ := (rm.ob k _ h).1
  exact ⟨vs, h1, h2, h3, rm.bel h⟩
theorem lstOf_ok (rm : RelM t K ρ H m) {d : D} {v : V} {ds : List D} (h : lstOf m d = some ds) (r : Rep t K ρ H d v) : ∃ a vs, v = .ref a ∧ SqL K H a vs ∧ Reps t K ρ H ds vs ∧ D.bels m.len ds := by
  cases d with
  | loc k =>
    have e := rep_loc r
    unfold lstOf at h
    cases g : m.get k with
    | none => simp [g] at h
    | some o =>
      cases o with
      | lst xs =>
        simp only [g, Option.some.injEq] at h
        subst h
        obtain ⟨vs, h1, h2, h3⟩ := get_lst rm g
        exact ⟨_, vs, e, SqL.of h1, h2, h3⟩
      | dic kvs => simp [g] at h
      | ins c fs => simp [g] at h
  | _ => simp [lstOf] at h
theorem seqOf_ok (rm : RelM t K ρ H m) {d : D} {v : V} {ds : List D} (h : seqOf m d = some ds) (r : Rep t K ρ H d v) (bl : d.bel m.len) : ∃ a vs, v = .ref a ∧ (SqL K H a vs ∨ SqT K H a vs ∧ d = .tup ds) ∧ Reps t K ρ H ds vs ∧ D.bels m.len ds := by
  cases d with
  | tup xs =>
    simp only [seqOf, Option.some.injEq] at h
    subst h
    obtain ⟨a, vs, h1, h2, h3⟩ := rep_tup r
    exact ⟨a, vs, h1, .inr ⟨h2, rfl⟩, h3, bel_tup bl⟩
  | loc k =>
    obtain ⟨a, vs, h1, h2, h3⟩ := lstOf_ok (d := .loc k) rm h r
    exact ⟨a, vs, h1, .inl h2, h3⟩
  | _ => simp [seqOf] at h

/-! ### the relation's forms -/
def Pk2 (t : Tx) (K : PySem.W.Frag) (p : Pr) (r : R2) : Prop := ∀ (W : XK) (ρ : Pl) (H : Hp) (m : Mem) (x y : D) (v u : V) (Q : VK), RelM t K ρ H m → Rep t K ρ H x v → Rep t K ρ H y u → x.bel m.len → y.bel m.len →
  RQ srD t K W ρ H m.len (prim p [x, y] m) Q → r v u H Q
def Pk1 (t : Tx) (K : PySem.W.Frag) (p : Pr) (r : V → Hp → VK → Prop) : Prop := ∀ (W : XK) (ρ : Pl) (H : Hp) (m : Mem) (x : D) (v : V) (Q : VK), RelM t K ρ H m → Rep t K ρ H x v → x.bel m.len →
  RQ srD t K W ρ H m.len (prim p [x] m) Q → r v H Q
/-- ints alone -/
theorem bel_int {i : Int} : D.bel n (.int i) := by simp only [D.bel]
theorem bel_bl {i : Bool} : D.bel n (.bl i) := by simp only [D.bel]
theorem bel_str {i : Str} : D.bel n (.str i) := by simp only [D.bel]
theorem bel_non : D.bel n .non := by simp only [D.bel]
theorem Rep.int {i : Int} : Rep t K ρ H (.int i) (.int i) := by simp only [Rep]
theorem Rep.bl {i : Bool} : Rep t K ρ H (.bl i) (.bl i) := by simp only [Rep]
theorem Rep.str {i : Str} : Rep t K ρ H (.str i) (.str i) := by simp only [Rep]
theorem Rep.non : Rep t K ρ H .non .non := by simp only [Rep]

def r_add (K : PySem.W.Frag) : R2 := fun x y H Q => rI0 (fun i j => .int (i + j)) x y H Q ∨ (∃ i j, x = .str i ∧ y = .str j ∧ i.length + j.length ≤ sizeLine ∧ Q (.str (i ++ j)) H) ∨ rCatA K x y H Q ∨ rCat x y H Q
theorem o_add {X : Cx} : OpR X (binaryOp .Add) (r_add X.K) := OpR.or op_add (OpR.or op_add_str (OpR.or op_catA op_cat))
theorem pk_add : Pk2 t K .add (r_add K) := by
  intro W ρ H m x y v u Q rm rx ry bx by_ h
  cases x <;> cases y <;> try exact False.elim h
  · exact .inl ⟨_, _, rep_int rx, rep_int ry, RQ.val h rm Rep.int bel_int⟩
  · obtain ⟨h1, h2⟩ := RQ.okIf h
    exact .inr (.inl ⟨_, _, rep_str rx, rep_str ry, of_decide_eq_true h1, RQ.val h2 rm Rep.str bel_str⟩)
  · rename_i xs ys
    obtain ⟨h1, h2⟩ := RQ.okIf h
    have h1 := of_decide_eq_true h1
    obtain ⟨a, vs, e1, s1, r1⟩ := rep_tup rx
    obtain ⟨b, us, e2, s2, r2⟩ := rep_tup ry
    have bl := bels_append (bel_tup bx) (bel_tup by_)
    have z1 := r1.length
    have z2 := r2.length
    refine .inr (.inr (.inl ⟨a, b, vs, us, e1, e2, s1, s2, by omega, fun e => ?_, fun _ e => ?_, fun _ _ => RQ.newT h2 rm (Reps.append r1 r2) bl⟩))
    · refine RQ.val h2 rm ?_ (by simpa only [D.bel] using bl)
      have ex : xs = [] := List.eq_nil_of_length_eq_zero (by rw [z1, e]; rfl)
      rw [ex]
      simp only [Rep, List.nil_append]
      exact ⟨b, us, rfl, s2, r2⟩
    · refine RQ.val h2 rm ?_ (by simpa only [D.bel] using bl)
      have ex : ys = [] := List.eq_nil_of_length_eq_zero (by rw [z2, e]; rfl)
      rw [ex]
      simp only [Rep, List.append_nil]
      exact ⟨a, vs, rfl, s1, r1⟩
  · rename_i a b
    simp only [prim, p_add] at h
    cases ga : m.get a with
    | none => simp only [ga] at h; exact False.elim h
    | some oa =>
      cases gb : m.get b with
      | none => cases oa <;> simp only [ga, gb] at h <;> exact False.elim h
      | some ob =>
        cases oa <;> cases ob <;> simp only [ga, gb] at h <;> try exact False.elim h
        rename_i xs ys
        obtain ⟨vs, q1, q2, q3⟩ := get_lst rm ga
        obtain ⟨us, q4, q5, q6⟩ := get_lst rm gb
        obtain ⟨z, k⟩ := RQ.newL h rm (Reps.append q2 q5) (bels_append q3 q6)
        rw [List.length_append] at z
        exact .inr (.inr (.inr ⟨_, _, vs, us, rep_loc rx, rep_loc ry, q1, q4, z, k⟩))
theorem pk_sub : Pk2 t K .sub (rI0 fun i j => .int (i - j)) := by
  intro W ρ H m x y v u Q rm rx ry bx by_ h
  cases x <;> cases y <;> try exact False.elim h
  exact ⟨_, _, rep_int rx, rep_int ry, RQ.val h rm Rep.int bel_int⟩
def r_mul (K : PySem.W.Frag) : R2 := fun x y H Q => rI CMul (fun i j => .int (i * j)) x y H Q ∨ rRep x y H Q ∨ rRepT K x y H Q
theorem o_mul {X : Cx} : OpR X (binaryOp .Mult) (r_mul X.K) := OpR.or op_mul (OpR.or op_rep op_repT)
theorem small64_of {i : Int} (h : small64 i = true) : -(2 ^ 64) < i ∧ i < 2 ^ 64 := of_decide_eq_true h
theorem Reps.flat {xs : List D} {vs : List V} (h : Reps t K ρ H xs vs) : ∀ k : Nat, Reps t K ρ H (List.replicate k xs).flatten (List.replicate k vs).flatten
  | 0 => by simp [Reps]
  | k + 1 => by
    simp only [List.replicate_succ, List.flatten_cons]
    exact Reps.append h (Reps.flat h k)
theorem bels_flat {xs : List D} (h : D.bels n xs) : ∀ k : Nat, D.bels n (List.replicate k xs).flatten
  | 0 => by simp [D.bels]
  | k + 1 => by
    simp only [List.replicate_succ, List.flatten_cons]
    exact bels_append h (bels_flat h k)
theorem pk_mul : Pk2 t K .mul (r_mul K) := by
  intro W ρ H m x y v u Q rm rx ry bx by_ h
  cases x <;> cases y <;> try exact False.elim h
  · obtain ⟨h1, h2⟩ := RQ.okIf h
    refine .inl ⟨_, _, rep_int rx, rep_int ry, ?_, RQ.val h2 rm Rep.int bel_int⟩
    rcases Bool.or_eq_true_iff.mp h1 with q | q
    · exact .inl (small64_of q)
    · exact .inr (small64_of q)
  · rename_i xs k
    obtain ⟨h1, h2⟩ := RQ.okIf h
    obtain ⟨h1, h3⟩ := Bool.and_eq_true_iff.mp h1
    obtain ⟨h4, h5, h6⟩ := of_decide_eq_true h3
    obtain ⟨a, vs, e1, s1, r1⟩ := rep_tup rx
    have z1 := r1.length
    refine .inr (.inr ⟨a, k, vs, e1, rep_int ry, s1, fun e => ?_, h4, h5, by omega, RQ.newT h2 rm (Reps.flat r1 _) (bels_flat (bel_tup bx) _)⟩)
    have ex : xs = [] := List.eq_nil_of_length_eq_zero (by rw [z1, e]; rfl)
    rw [ex] at h1
    cases h1
  · rename_i a k
    simp only [prim, p_mul] at h
    cases ga : m.get a with
    | none => simp only [ga] at h; exact False.elim h
    | some oa =>
      cases oa <;> simp only [ga] at h <;> try exact False.elim h
      rename_i xs
      obtain ⟨h1, h2⟩ := RQ.iteN h
      obtain ⟨h4, h5, h6⟩ := of_decide_eq_true h1
      obtain ⟨vs, q1, q2, q3⟩ := get_lst rm ga
      obtain ⟨z, c⟩ := RQ.newL h2 rm (Reps.flat q2 _) (bels_flat q3 _)
      exact .inr (.inl ⟨_, k, vs, rep_loc rx, rep_int ry, q1, h4, h5, by rw [← q2.length]; exact h6, c⟩)
theorem cdiv_of {i j : Int} (h : decide (0 < j ∧ j < 1073741824) = true) : CDiv i j := by
  have q := of_decide_eq_true h
  exact q
theorem cpow_of {i j : Int} (h : decide (0 ≤ j ∧ j ≤ 1000000 ∧ i.natAbs < 2 ^ 64) = true) : CPow i j := by
  have q := of_decide_eq_true h
  exact q
theorem pk_fdiv : Pk2 t K .fdiv (rI CDiv fun i j => .int (i / j)) := by
  intro W ρ H m x y v u Q rm rx ry bx by_ h
  cases x <;> cases y <;> try exact False.elim h
  obtain ⟨h1, h2⟩ := RQ.okIf h
  exact ⟨_, _, rep_int rx, rep_int ry, cdiv_of h1, RQ.val h2 rm Rep.int bel_int⟩
theorem pk_mod : Pk2 t K .mod (rI (fun _ j => 0 < j) fun i j => .int (i % j)) := by
  intro W ρ H m x y v u Q rm rx ry bx by_ h
  cases x <;> cases y <;> try exact False.elim h
  obtain ⟨h1, h2⟩ := RQ.okIf h
  exact ⟨_, _, rep_int rx, rep_int ry, of_decide_eq_true h1, RQ.val h2 rm Rep.int bel_int⟩
theorem pk_pow : Pk2 t K .pow (rI CPow fun i j => .int (i ^ j.toNat)) := by
  intro W ρ H m x y v u Q rm rx ry bx by_ h
  cases x <;> cases y <;> try exact False.elim h
  obtain ⟨h1, h2⟩ := RQ.okIf h
  exact ⟨_, _, rep_int rx, rep_int ry, cpow_of h1, RQ.val h2 rm Rep.int bel_int⟩
theorem pk_neg : Pk1 t K .neg (rU fun i => .int (-i)) := by
  intro W ρ H m x v Q rm rx bx h
  cases x <;> try exact False.elim h
  exact ⟨_, rep_int rx, RQ.val h rm Rep.int bel_int⟩
theorem pk_lt : Pk2 t K .lt (rI0 fun i j => .bl (decide (i < j))) := by
  intro W ρ H m x y v u Q rm rx ry bx by_ h
  cases x <;> cases y <;> try exact False.elim h
  exact ⟨_, _, rep_int rx, rep_int ry, RQ.val h rm Rep.bl bel_bl⟩
theorem pk_le : Pk2 t K .le (rI0 fun i j => .bl (decide (i ≤ j))) := by
  intro W ρ H m x y v u Q rm rx ry bx by_ h
  cases x <;> cases y <;> try exact False.elim h
  exact ⟨_, _, rep_int rx, rep_int ry, RQ.val h rm Rep.bl bel_bl⟩
theorem pk_gt : Pk2 t K .gt (rI0 fun i j => .bl (decide (j < i))) := by
  intro W ρ H m x y v u Q rm rx ry bx by_ h
  cases x <;> cases y <;> try exact False.elim h
  exact ⟨_, _, rep_int rx, rep_int ry, RQ.val h rm Rep.bl bel_bl⟩
theorem pk_ge : Pk2 t K .ge (rI0 fun i j => .bl (decide (j ≤ i))) := by
  intro W ρ H m x y v u Q rm rx ry bx by_ h
  cases x <;> cases y <;> try exact False.elim h
  exact ⟨_, _, rep_int rx, rep_int ry, RQ.val h rm Rep.bl bel_bl⟩
theorem pk_isB : Pk2 t K .isB rIsB := by
  intro W ρ H m x y v u Q rm rx ry bx by_ h
  cases x <;> cases y <;> try exact False.elim h
  exact ⟨_, _, rep_bl rx, rep_bl ry, RQ.val h rm Rep.bl bel_bl⟩
theorem pk_notB : Pk2 t K .notB rNotB := by
  intro W ρ H m x y v u Q rm rx ry bx by_ h
  cases x <;> cases y <;> try exact False.elim h
  exact ⟨_, _, rep_bl rx, rep_bl ry, RQ.val h rm Rep.bl bel_bl⟩
theorem pk_isN : Pk2 t K .isN (fun x y H Q => y = .non ∧ Q (.bl (decide (x = .non))) H) := by
  intro W ρ H m x y v u Q rm rx ry bx by_ h
  cases y <;> try (cases x <;> exact False.elim h)
  refine ⟨rep_non ry, ?_⟩
  cases x <;> try exact False.elim h
  · rw [rep_non rx]; exact RQ.val h rm Rep.bl bel_bl
  · rw [rep_bl rx]; exact RQ.val h rm Rep.bl bel_bl
  · rw [rep_int rx]; exact RQ.val h rm Rep.bl bel_bl
  · rw [rep_str rx]; exact RQ.val h rm Rep.bl bel_bl
  · obtain ⟨a, vs, e, _⟩ := rep_tup rx
    rw [e]; exact RQ.val h rm Rep.bl bel_bl
  · rw [rep_loc rx]; exact RQ.val h rm Rep.bl bel_bl
  · rw [show v = .ref _ from by simpa only [Rep] using rx]; exact RQ.val h rm Rep.bl bel_bl
  · obtain ⟨a, e, _⟩ := (show ∃ a, v = .ref a ∧ _ from by simpa only [Rep] using rx)
    rw [e]; exact RQ.val h rm Rep.bl bel_bl
theorem pk_notN : Pk2 t K .notN (fun x y H Q => y = .non ∧ Q (.bl (!decide (x = .non))) H) := by
  intro W ρ H m x y v u Q rm rx ry bx by_ h
  cases y <;> try (cases x <;> exact False.elim h)
  refine ⟨rep_non ry, ?_⟩
  cases x <;> try exact False.elim h
  · rw [rep_non rx]; exact RQ.val h rm Rep.bl bel_bl
  · rw [rep_bl rx]; exact RQ.val h rm Rep.bl bel_bl
  · rw [rep_int rx]; exact RQ.val h rm Rep.bl bel_bl
  · rw [rep_str rx]; exact RQ.val h rm Rep.bl bel_bl
  · obtain ⟨a, vs, e, _⟩ := rep_tup rx
    rw [e]; exact RQ.val h rm Rep.bl bel_bl
  · rw [rep_loc rx]; exact RQ.val h rm Rep.bl bel_bl
  · rw [show v = .ref _ from by simpa only [Rep] using rx]; exact RQ.val h rm Rep.bl bel_bl
  · obtain ⟨a, e, _⟩ := (show ∃ a, v = .ref a ∧ _ from by simpa only [Rep] using rx)
    rw [e]; exact RQ.val h rm Rep.bl bel_bl
end
end NV

set_option Elab.async false
set_option linter.all false
set_option maxRecDepth 100000
set_option maxHeartbeats 4000000
/-! NvPrim2: the operations on values, further ones. -/
namespace NV
open PySem PySem.Spec PyProof.Rows L2
section
variable {t : Tx} {K : PySem.W.Frag} {ρ : Pl} {H : Hp} {m : Mem} {n : Nat} {W : XK} {Q : VK}

theorem ixI_eq (n : Nat) (i : Int) : ixI n i = ixN n i := rfl
theorem atD_eq {α : Type} (xs : List α) (i : Int) : atD xs i = atI xs i := by
  unfold atD atI
  rw [ixI_eq]
  cases ixN xs.length i <;> rfl
theorem sIx_eq (n d : Nat) (o : Option Int) : sIx n d o = HT.sIx n d o := by cases o <;> rfl
theorem atI_reps {ds : List D} {vs : List V} {i : Int} {x : D} (r : Reps t K ρ H ds vs) (h : atD ds i = some x) : ∃ v, atI vs i = some v ∧ Rep t K ρ H x v ∧ (∀ n, D.bels n ds → x.bel n) := by
  rw [atD_eq] at h
  unfold atI at h ⊢
  rw [← r.length]
  cases e : ixN ds.length i with
  | none => rw [e] at h; cases h
  | some j =>
    rw [e] at h
    obtain ⟨v, h1, h2⟩ := r.get (i := j) h
    exact ⟨v, h1, h2, fun n b => bels_get b h⟩
/-! ### dicts -/
theorem key_rep {k : D} {v : V} (hk : keyD k = true) (h : Rep t K ρ H k v) : ∃ q : Key, v = kV q ∧ (∀ k' : D, ∀ q' : Key, keyD k' = true → Rep t K ρ H k' (kV q') → (keyEq k' k = true ↔ q' = q)) := by
  cases k with
  | int i =>
    refine ⟨.inl i, rep_int h, fun k' q' h1 h2 => ?_⟩
    cases k' with
    | int j =>
      have e := rep_int h2
      cases q' with
      | inl z => cases e; simp [keyEq]
      | inr z => cases e
    | str s =>
      have e := rep_str h2
      cases q' with
      | inl z => cases e
      | inr z => simp [keyEq]
    | _ => cases h1
  | str s =>
    refine ⟨.inr s, rep_str h, fun k' q' h1 h2 => ?_⟩
    cases k' with
    | int j =>
      have e := rep_int h2
      cases q' with
      | inl z => simp [keyEq]
      | inr z => cases e
    | str s' =>
      have e := rep_str h2
      cases q' with
      | inl z => cases e
      | inr z => cases e; simp [keyEq]
    | _ => cases h1
  | _ => cases hk
theorem dGet_ok {k : D} {q : Key} (hq : ∀ k' : D, ∀ q' : Key, keyD k' = true → Rep t K ρ H k' (kV q') → (keyEq k' k = true ↔ q' = q)) : ∀ {kvs : List (D × D)} {ks : List (Key × V)}, RepKv t K ρ H kvs ks →
    (dGet kvs k = none ∧ valV ks q = none) ∨ ∃ d v, dGet kvs k = some d ∧ valV ks q = some v ∧ Rep t K ρ H d v ∧ (∀ n, belKv n kvs → d.bel n)
  | [], [], _ => .inl ⟨rfl, rfl⟩
  | (k1, d1) :: kvs, (q1, v1) :: ks, ⟨h1, h2, h3, h4⟩ => by
    have e := hq k1 q1 h2 h1
    by_cases c : keyEq k1 k = true
    · refine .inr ⟨d1, v1, ?_, valV_pos (e.mp c), h3, fun n b => b.2.1⟩
      simp only [dGet, c, if_true]
    · have c' : ¬ q1 = q := fun z => c (e.mpr z)
      have g : dGet ((k1, d1) :: kvs) k = dGet kvs k := by simp only [dGet, if_neg c]
      have g2 : valV ((q1, v1) :: ks) q = valV ks q := valV_neg c'
      rw [g, g2]
      rcases dGet_ok hq h4 with z | ⟨d, v, a, b, c, f⟩
      · exact .inl z
      · exact .inr ⟨d, v, a, b, c, fun n h => f n h.2.2⟩
  | [], _ :: _, h => h.elim
  | (_, _) :: _, [], h => h.elim
theorem putK_cons {q1 q : Key} {v1 v : V} {ks : List (Key × V)} : putK ((q1, v1) :: ks) q v = if q1 = q then (q1, v) :: ks.map (fun kv => if kv.1 = q then (kv.1, v) else kv) else (q1, v1) :: putK ks q v := by
  unfold putK
  by_cases e : q1 = q
  · simp [e]
  · simp only [List.any_cons, decide_eq_false e, Bool.false_or, if_neg e]
    by_cases c : (ks.any fun kv => decide (kv.1 = q)) = true
    · simp only [if_pos c, List.map_cons, if_neg e]
    · simp only [if_neg c, List.cons_append]
/-- keys are unlike -/
def nodK : List (Key × V) → Prop := fun ks => (ks.map (·.1)).Nodup
theorem map_id {q : Key} {v : V} : ∀ {ks : List (Key × V)}, (∀ p ∈ ks, p.1 ≠ q) → ks.map (fun kv => if kv.1 = q then (kv.1, v) else kv) = ks
  | [], _ => rfl
  | p :: ks, h => by
    rw [List.map_cons, if_neg (h p List.mem_cons_self), map_id fun z hz => h z (List.mem_cons_of_mem _ hz)]
theorem dPut_ok {k x : D} {q : Key} {v : V} (hk : keyD k = true) (rk : Rep t K ρ H k (kV q)) (rx : Rep t K ρ H x v) (hq : ∀ k' : D, ∀ q' : Key, keyD k' = true → Rep t K ρ H k' (kV q') → (keyEq k' k = true ↔ q' = q)) : ∀ {kvs : List (D × D)} {ks : List (Key × V)},
    RepKv t K ρ H kvs ks → nodK ks → RepKv t K ρ H (dPut kvs k x) (putK ks q v)
  | [], [], _, _ => ⟨rk, hk, rx, trivial⟩
  | (k1, d1) :: kvs, (q1, v1) :: ks, ⟨h1, h2, h3, h4⟩, nd => by
    have e := hq k1 q1 h2 h1
    rw [putK_cons]
    have nd' := List.nodup_cons.mp nd
    by_cases c : keyEq k1 k = true
    · have g : dPut ((k1, d1) :: kvs) k x = (k1, x) :: kvs := by simp only [dPut, c, if_true]
      rw [g, if_pos (e.mp c), map_id fun p hp z => nd'.1 (by rw [e.mp c, ← z]; exact List.mem_map.mpr ⟨p, hp, rfl⟩)]
      exact ⟨h1, h2, rx, h4⟩
    · have g : dPut ((k1, d1) :: kvs) k x = (k1, d1) :: dPut kvs k x := by simp only [dPut, if_neg c]
      rw [g, if_neg fun z => c (e.mpr z)]
      exact ⟨h1, h2, h3, dPut_ok hk rk rx hq h4 nd'.2⟩
  | [], _ :: _, h, _ => h.elim
  | (_, _) :: _, [], h, _ => h.elim
theorem belKv_put {k x : D} (hk : k.bel n) (hx : x.bel n) : ∀ {kvs : List (D × D)}, belKv n kvs → belKv n (dPut kvs k x)
  | [], _ => ⟨hk, hx, trivial⟩
  | (k1, d1) :: kvs, ⟨h1, h2, h3⟩ => by
    by_cases c : keyEq k1 k = true
    · simp only [dPut, c, if_true]
      exact ⟨h1, hx, h3⟩
    · simp only [dPut, if_neg c]
      exact ⟨h1, h2, belKv_put hk hx h3⟩
theorem putK_keys (ks : List (Key × V)) (q : Key) (v : V) (nd : nodK ks) : nodK (putK ks q v) := by
  unfold nodK putK at *
  by_cases c : (ks.any fun kv => decide (kv.1 = q)) = true
  · rw [if_pos c]
    have e : (ks.map fun kv => if kv.1 = q then (kv.1, v) else kv).map (·.1) = ks.map (·.1) := by
      rw [List.map_map]
      refine List.map_congr_left fun p _ => ?_
      show (if p.1 = q then (p.1, v) else p).1 = p.1
      by_cases h : p.1 = q
      · rw [if_pos h]
      · rw [if_neg h]
    rw [e]
    exact nd
  · rw [if_neg c, List.map_append]
    have hn : q ∉ ks.map (·.1) := fun hm => by
      obtain ⟨p, hp, e⟩ := List.mem_map.mp hm
      exact c (List.any_eq_true.mpr ⟨p, hp, decide_eq_true e⟩)
    refine List.nodup_append.mpr ⟨nd, by simp, fun a ha b hb e => ?_⟩
    simp only [List.map_cons, List.map_nil, List.mem_singleton] at hb
    exact hn (by rw [← hb, ← e]; exact ha)
/-- keys and values of a list of pairs -/
theorem kvOf_ok {x : D} {p : D × D} (h : kvOf x = some p) {v : V} (r : Rep t K ρ H x v) : keyD p.1 = true ∧ ∃ a q u, v = .ref a ∧ SqT K H a [kV q, u] ∧ Rep t K ρ H p.1 (kV q) ∧ Rep t K ρ H p.2 u ∧ (x.bel n → p.1.bel n ∧ p.2.bel n) := by
  unfold kvOf at h
  split at h
  · cases h
    obtain ⟨a, vs, e, sq, rs⟩ := rep_tup r
    obtain ⟨v1, v2, e2, r1, r2⟩ := reps_two rs
    subst e2
    have e3 := rep_int r1
    refine ⟨rfl, a, .inl _, v2, e, by rw [e3] at sq; exact sq, Rep.int, r2, fun b => ?_⟩
    have b' := bel_tup b
    simp only [D.bels] at b'
    exact ⟨b'.1, b'.2.1⟩
  · cases h
    obtain ⟨a, vs, e, sq, rs⟩ := rep_tup r
    obtain ⟨v1, v2, e2, r1, r2⟩ := reps_two rs
    subst e2
    have e3 := rep_str r1
    refine ⟨rfl, a, .inr _, v2, e, by rw [e3] at sq; exact sq, Rep.str, r2, fun b => ?_⟩
    have b' := bel_tup b
    simp only [D.bels] at b'
    exact ⟨b'.1, b'.2.1⟩
  · cases h
theorem mapO_cons {α β : Type} {g : α → Option β} {x : α} {xs : List α} {zs : List β} (h : mapO g (x :: xs) = some zs) : ∃ y ys, zs = y :: ys ∧ g x = some y ∧ mapO g xs = some ys := by
  unfold mapO at h
  cases e : g x with
  | none => rw [e] at h; cases h
  | some y =>
    rw [e] at h
    cases e2 : mapO g xs with
    | none => rw [e2] at h; cases h
    | some ys =>
      rw [e2] at h
      cases h
      exact ⟨y, ys, rfl, rfl, rfl⟩
theorem mapO_nil {α β : Type} {g : α → Option β} {zs : List β} (h : mapO g [] = some zs) : zs = [] := by cases h; rfl
theorem kvsOf_ok : ∀ {xs : List D} {kvs : List (D × D)} {vs : List V}, mapO kvOf xs = some kvs → Reps t K ρ H xs vs → ∃ (ps : List Addr) (ks : List (Key × V)), vs = ps.map V.ref ∧ Paired (fun p kv => SqT K H p [kV kv.1, kv.2]) ps ks ∧ RepKv t K ρ H kvs ks ∧ (D.bels n xs → belKv n kvs)
  | [], _, [], h, _ => by cases h; exact ⟨[], [], rfl, .nil, trivial, fun _ => trivial⟩
  | x :: xs, kvs, v :: vs, h, r => by
    obtain ⟨y, ys, rfl, h1, h2⟩ := mapO_cons h
    simp only [Reps] at r
    obtain ⟨hk, a, q, u, rfl, sq, r1, r2, b1⟩ := kvOf_ok (n := n) h1 r.1
    obtain ⟨ps, ks, rfl, pr, rk, b2⟩ := kvsOf_ok h2 r.2
    exact ⟨a :: ps, (q, u) :: ks, rfl, .cons sq pr, ⟨r1, hk, r2, rk⟩, fun b => by
      simp only [D.bels] at b
      exact ⟨(b1 b.1).1, (b1 b.1).2, b2 b.2⟩⟩
  | [], _, _ :: _, _, r => by simp [Reps] at r
  | _ :: _, _, [], _, r => by simp [Reps] at r
theorem dPuts_ok : ∀ {more : List (D × D)} {mk : List (Key × V)} {acc : List (D × D)} {ka : List (Key × V)}, RepKv t K ρ H more mk → RepKv t K ρ H acc ka → nodK ka → RepKv t K ρ H (dPuts acc more) (mergeK ka mk) ∧ nodK (mergeK ka mk) ∧ (belKv n more → belKv n acc → belKv n (dPuts acc more))
  | [], [], acc, ka, _, h, nd => ⟨h, nd, fun _ b => b⟩
  | (k, x) :: more, (q, v) :: mk, acc, ka, ⟨h1, h2, h3, h4⟩, h, nd => by
    obtain ⟨q2, e, hq⟩ := key_rep h2 h1
    have eq2 : q = q2 := by cases q <;> cases q2 <;> simp only [kV] at e <;> first | (cases e; rfl) | cases e
    subst eq2
    obtain ⟨a1, a2, a3⟩ := dPuts_ok h4 (dPut_ok h2 h1 h3 hq h nd) (putK_keys ka q v nd)
    exact ⟨a1, a2, fun b c => a3 b.2.2 (belKv_put b.1 b.2.1 c)⟩
  | [], _ :: _, _, _, h, _, _ => h.elim
  | (_, _) :: _, [], _, _, h, _, _ => h.elim

/-! ### calls of built-ins -/
abbrev R1 := V → Hp → VK → Prop
def r_len (K : PySem.W.Frag) : List V → Hp → VK → Prop := fun xs H Q => (∃ x n, xs = [x] ∧ LenV K x H n ∧ Q (.int n) H) ∨ ∃ a kvs, xs = [V.ref a] ∧ H a = some (.dK kvs) ∧ Q (.int kvs.length) H
theorem RepKv.length : ∀ {kvs : List (D × D)} {ks : List (Key × V)}, RepKv t K ρ H kvs ks → kvs.length = ks.length
  | [], [], _ => rfl
  | (_, _) :: kvs, (_, _) :: ks, ⟨_, _, _, h⟩ => by simp only [List.length_cons, RepKv.length h]
  | [], _ :: _, h => h.elim
  | (_, _) :: _, [], h => h.elim
theorem pk_len : Pk1 t K .len (fun v H Q => r_len K [v] H Q) := by
  intro W ρ H m x v Q rm rx bx h
  cases x <;> try exact False.elim h
  · obtain ⟨h1, h2⟩ := RQ.okIf h
    have e := rep_str rx
    subst e
    exact .inl ⟨_, _, rfl, ⟨of_decide_eq_true h1, rfl⟩, RQ.val h2 rm Rep.int bel_int⟩
  · obtain ⟨a, vs, e, sq, rs⟩ := rep_tup rx
    subst e
    refine .inl ⟨_, _, rfl, .inr ⟨vs, sq, rfl⟩, ?_⟩
    rw [← rs.length]
    exact RQ.val h rm Rep.int bel_int
  · rename_i k
    have e := rep_loc rx
    subst e
    simp only [prim, p_len] at h
    cases g : m.get k with
    | none => simp only [g] at h; exact False.elim h
    | some o =>
      cases o <;> simp only [g] at h <;> try exact False.elim h
      · obtain ⟨vs, q1, q2, q3⟩ := get_lst rm g
        refine .inl ⟨_, _, rfl, .inl ⟨vs, SqL.of q1, rfl⟩, ?_⟩
        rw [← q2.length]
        exact RQ.val h rm Rep.int bel_int
      · obtain ⟨ks, q1, q2, q3, q4⟩ := get_dic rm g
        refine .inr ⟨_, _, rfl, q1, ?_⟩
        rw [← q2.length]
        exact RQ.val h rm Rep.int bel_int
theorem o_len {X : Cx} : CallR X (.builtin "len") (r_len X.K) := CallR.or call_len call_lenD
def r_list (K : PySem.W.Frag) : List V → Hp → VK → Prop := fun xs H Q => (∃ p ys, xs = [.ref p] ∧ (SqL K H p ys ∨ SqT K H p ys) ∧ ∀ l, H l = none → Q (.ref l) (upd H l (.lst ys))) ∨
  ∃ (a : Addr) (kvs : List (Key × V)), xs = [.ref a] ∧ Rd H a (.dK kvs) ∧ ∀ p, H p = none → Q (.ref p) (upd H p (.lst (kvs.map fun kv => kV kv.1)))
theorem RepKv.keys : ∀ {kvs : List (D × D)} {ks : List (Key × V)}, RepKv t K ρ H kvs ks → Reps t K ρ H (kvs.map (·.1)) (ks.map fun kv => kV kv.1) ∧ (belKv n kvs → D.bels n (kvs.map (·.1)))
  | [], [], _ => by simp [Reps, D.bels]
  | (k, x) :: kvs, (q, v) :: ks, ⟨h1, _, _, h⟩ => by
    obtain ⟨a, b⟩ := RepKv.keys h
    refine ⟨?_, fun c => ?_⟩
    · simp only [List.map_cons, Reps]
      exact ⟨h1, a⟩
    · simp only [List.map_cons, D.bels]
      exact ⟨c.1, b c.2.2⟩
  | [], _ :: _, h => h.elim
  | (_, _) :: _, [], h => h.elim
theorem rep_rol {ns : List Int} {v : V} (h : Rep t K ρ H (.rol ns) v) : ∃ a, v = .ref a ∧ RoAt K H a ns := by simpa only [Rep] using h
theorem pk_list : Pk1 t K .list (fun v H Q => r_list K [v] H Q) := by
  intro W ρ H m x v Q rm rx bx h
  have h : RQ srD t K W ρ H m.len (p_list1 x m) Q := h
  unfold p_list1 at h
  cases x with
  | rol ns =>
    obtain ⟨a, rfl, ra⟩ := rep_rol rx
    exact .inl ⟨a, _, rfl, .inl ra.sq, (RQ.newL h rm (Reps.ints ns) (bels_ints ns)).2⟩
  | tup xs =>
    obtain ⟨a, vs, rfl, sq, rs⟩ := rep_tup rx
    exact .inl ⟨a, vs, rfl, .inr sq, (RQ.newL h rm rs (bel_tup bx)).2⟩
  | loc k =>
    have e2 := rep_loc rx
    subst e2
    cases g : m.get k with
    | none => simp only [g] at h; exact False.elim h
    | some o =>
      cases o with
      | lst xs =>
        simp only [g] at h
        obtain ⟨vs, q1, q2, q3⟩ := get_lst rm g
        exact .inl ⟨_, vs, rfl, .inl (SqL.of q1), (RQ.newL h rm q2 q3).2⟩
      | dic kvs =>
        simp only [g] at h
        obtain ⟨ks, q1, q2, q3, q4⟩ := get_dic rm g
        obtain ⟨r1, b1⟩ := RepKv.keys (n := m.len) q2
        exact .inr ⟨_, ks, rfl, .inl q1, (RQ.newL h rm r1 (b1 q4)).2⟩
      | ins c fs => simp only [g] at h; exact False.elim h
  | _ => exact False.elim h
theorem o_list {X : Cx} (hc : X.calm = true) : CallR X (.type "list") (r_list X.K) := CallR.or call_list_of (call_listD hc)
def r_tuple (K : PySem.W.Frag) : List V → Hp → VK → Prop := fun xs H Q => ∃ p ys, xs = [.ref p] ∧ ((SqL K H p ys ∧ ∀ l, H l = none → Q (.ref l) (upd H l (.tup ys))) ∨ (SqT K H p ys ∧ Q (.ref p) H))
theorem pk_tuple : Pk1 t K .tuple (fun v H Q => r_tuple K [v] H Q) := by
  intro W ρ H m x v Q rm rx bx h
  simp only [prim, p_tuple] at h
  cases e : seqOf m x with
  | some xs =>
    simp only [e] at h
    obtain ⟨a, vs, rfl, sq, rs, bs⟩ := seqOf_ok rm e rx bx
    refine ⟨a, vs, rfl, sq.imp (fun s => ⟨s, RQ.newT h rm rs bs⟩) fun s => ⟨s.1, ?_⟩⟩
    refine RQ.val h rm ?_ (by simpa only [D.bel] using bs)
    rw [← s.2]
    exact rx
  | none =>
    simp only [e] at h
    exact False.elim h
theorem o_tuple {X : Cx} : CallR X (.type "tuple") (r_tuple X.K) := call_tuple_of
def r_dict (K : PySem.W.Frag) : List V → Hp → VK → Prop := fun xs H Q => (∃ (a : Addr) (ps : List Addr) (kvs : List (Key × V)), xs = [.ref a] ∧ SqL K H a (ps.map V.ref) ∧ Paired (fun p kv => SqT K H p [kV kv.1, kv.2]) ps kvs ∧ ∀ p, H p = none → Q (.ref p) (upd H p (.dK (mergeK [] kvs)))) ∨
  ∃ (a : Addr) (kvs : List (Key × V)), xs = [.ref a] ∧ Rd H a (.dK kvs) ∧ ∀ p, H p = none → Q (.ref p) (upd H p (.dK kvs))
theorem o_dict {X : Cx} (hc : X.calm = true) : CallR X (.type "dict") (r_dict X.K) := CallR.or (call_dictP hc) call_dictD
theorem pk_dict : Pk1 t K .dict (fun v H Q => r_dict K [v] H Q) := by
  intro W ρ H m x v Q rm rx bx h
  cases x <;> try exact False.elim h
  rename_i k
  have e := rep_loc rx
  subst e
  simp only [prim, p_dict] at h
  cases g : m.get k with
  | none => simp only [g] at h; exact False.elim h
  | some o =>
    cases o <;> simp only [g] at h <;> try exact False.elim h
    · rename_i xs
      obtain ⟨vs, q1, q2, q3⟩ := get_lst rm g
      cases e : mapO kvOf xs with
      | none => simp only [e] at h; exact False.elim h
      | some kvs =>
        simp only [e] at h
        obtain ⟨ps, ks, rfl, pr, rk, bk⟩ := kvsOf_ok (n := m.len) e q2
        obtain ⟨a1, a2, a3⟩ := dPuts_ok (n := m.len) (acc := []) (ka := []) rk trivial (by simp [nodK])
        exact .inl ⟨_, ps, ks, rfl, SqL.of q1, pr, RQ.newK h rm a1 a2 (a3 (bk q3) trivial)⟩
    · obtain ⟨ks, q1, q2, q3, q4⟩ := get_dic rm g
      exact .inr ⟨_, ks, rfl, .inl q1, RQ.newK h rm q2 q3 q4⟩

theorem ints_of : ∀ {xs : List D} {ns : List Int} {vs : List V}, mapO intOf xs = some ns → Reps t K ρ H xs vs → vs = ns.map V.int
  | [], _, [], h, _ => by cases h; rfl
  | x :: xs, ns, v :: vs, h, r => by
    obtain ⟨y, ys, rfl, h1, h2⟩ := mapO_cons h
    simp only [Reps] at r
    cases x <;> simp only [intOf] at h1 <;> try cases h1
    rw [rep_int r.1, ints_of h2 r.2]
    rfl
  | [], _, _ :: _, _, r => by simp [Reps] at r
  | _ :: _, _, [], _, r => by simp [Reps] at r
theorem bls_of : ∀ {xs : List D} {ns : List Bool} {vs : List V}, mapO blOf xs = some ns → Reps t K ρ H xs vs → vs = ns.map V.bl
  | [], _, [], h, _ => by cases h; rfl
  | x :: xs, ns, v :: vs, h, r => by
    obtain ⟨y, ys, rfl, h1, h2⟩ := mapO_cons h
    simp only [Reps] at r
    cases x <;> simp only [blOf] at h1 <;> try cases h1
    rw [rep_bl r.1, bls_of h2 r.2]
    rfl
  | [], _, _ :: _, _, r => by simp [Reps] at r
  | _ :: _, _, [], _, r => by simp [Reps] at r
theorem pk_sum : Pk1 t K .sum (fun v H Q => rSum K [v] H Q) := by
  intro W ρ H m x v Q rm rx bx h
  simp only [prim, p_sum] at h
  cases e : lstOf m x with
  | none => simp only [e] at h; exact False.elim h
  | some xs =>
    simp only [e] at h
    cases e2 : mapO intOf xs with
    | none => simp only [e2] at h; exact False.elim h
    | some ns =>
      simp only [e2] at h
      obtain ⟨a, vs, rfl, sq, rs, bs⟩ := lstOf_ok rm e rx
      rw [ints_of e2 rs] at sq
      exact ⟨a, ns, rfl, sq, RQ.val h rm Rep.int bel_int⟩
theorem pk_all : Pk1 t K .all (fun v H Q => rAll K [v] H Q) := by
  intro W ρ H m x v Q rm rx bx h
  simp only [prim, p_all] at h
  cases e : lstOf m x with
  | none => simp only [e] at h; exact False.elim h
  | some xs =>
    simp only [e] at h
    cases e2 : mapO blOf xs with
    | none => simp only [e2] at h; exact False.elim h
    | some ns =>
      simp only [e2] at h
      obtain ⟨a, vs, rfl, sq, rs, bs⟩ := lstOf_ok rm e rx
      rw [bls_of e2 rs] at sq
      exact ⟨a, ns, rfl, sq, RQ.val h rm Rep.bl bel_bl⟩
theorem pk_any : Pk1 t K .any (fun v H Q => rAny K [v] H Q) := by
  intro W ρ H m x v Q rm rx bx h
  simp only [prim, p_any] at h
  cases e : lstOf m x with
  | none => simp only [e] at h; exact False.elim h
  | some xs =>
    simp only [e] at h
    cases e2 : mapO blOf xs with
    | none => simp only [e2] at h; exact False.elim h
    | some ns =>
      simp only [e2] at h
      obtain ⟨a, vs, rfl, sq, rs, bs⟩ := lstOf_ok rm e rx
      rw [bls_of e2 rs] at sq
      exact ⟨a, ns, rfl, sq, RQ.val h rm Rep.bl bel_bl⟩
theorem maxI_spec : ∀ (ns : List Int) (a : Int), (maxI a ns = a ∨ maxI a ns ∈ ns) ∧ a ≤ maxI a ns ∧ ∀ y ∈ ns, y ≤ maxI a ns
  | [], a => ⟨.inl rfl, Int.le_refl _, fun _ h => by cases h⟩
  | b :: r, a => by
    obtain ⟨h1, h2, h3⟩ := maxI_spec r (if a < b then b else a)
    show (maxI (if a < b then b else a) r = a ∨ maxI (if a < b then b else a) r ∈ b :: r) ∧ a ≤ maxI (if a < b then b else a) r ∧ ∀ y ∈ b :: r, y ≤ maxI (if a < b then b else a) r
    refine ⟨?_, ?_, fun y hy => ?_⟩
    · rcases h1 with h1 | h1
      · by_cases c : a < b
        · right
          rw [h1, if_pos c]
          exact List.mem_cons_self
        · left
          rw [h1, if_neg c]
      · exact .inr (List.mem_cons_of_mem _ h1)
    · by_cases c : a < b
      · rw [if_pos c] at h2 ⊢
        omega
      · rw [if_neg c] at h2 ⊢
        exact h2
    · rcases List.mem_cons.mp hy with e | hy
      · rw [e]
        by_cases c : a < b
        · rw [if_pos c] at h2 ⊢
          exact h2
        · rw [if_neg c] at h2 ⊢
          omega
      · exact h3 y hy
theorem minI_spec : ∀ (ns : List Int) (a : Int), (minI a ns = a ∨ minI a ns ∈ ns) ∧ minI a ns ≤ a ∧ ∀ y ∈ ns, minI a ns ≤ y
  | [], a => ⟨.inl rfl, Int.le_refl _, fun _ h => by cases h⟩
  | b :: r, a => by
    obtain ⟨h1, h2, h3⟩ := minI_spec r (if b < a then b else a)
    show (minI (if b < a then b else a) r = a ∨ minI (if b < a then b else a) r ∈ b :: r) ∧ minI (if b < a then b else a) r ≤ a ∧ ∀ y ∈ b :: r, minI (if b < a then b else a) r ≤ y
    refine ⟨?_, ?_, fun y hy => ?_⟩
    · rcases h1 with h1 | h1
      · by_cases c : b < a
        · right
          rw [h1, if_pos c]
          exact List.mem_cons_self
        · left
          rw [h1, if_neg c]
      · exact .inr (List.mem_cons_of_mem _ h1)
    · by_cases c : b < a
      · rw [if_pos c] at h2 ⊢
        omega
      · rw [if_neg c] at h2 ⊢
        exact h2
    · rcases List.mem_cons.mp hy with e | hy
      · rw [e]
        by_cases c : b < a
        · rw [if_pos c] at h2 ⊢
          exact h2
        · rw [if_neg c] at h2 ⊢
          omega
      · exact h3 y hy
theorem pk_max1 : Pk1 t K .max1 (fun v H Q => rMax K [v] H Q) := by
  intro W ρ H m x v Q rm rx bx h
  simp only [prim, p_max1] at h
  cases e : lstOf m x with
  | none => simp only [e] at h; exact False.elim h
  | some xs =>
    simp only [e] at h
    cases e2 : mapO intOf xs with
    | none => simp only [e2] at h; exact False.elim h
    | some ns =>
      simp only [e2] at h
      obtain ⟨a, vs, rfl, sq, rs, bs⟩ := lstOf_ok rm e rx
      rw [ints_of e2 rs] at sq
      cases ns with
      | nil => exact False.elim h
      | cons b r =>
        simp only at h
        refine ⟨a, b :: r, rfl, sq, Nat.succ_pos _, fun k hk hm => ?_⟩
        obtain ⟨s1, s2, s3⟩ := maxI_spec r b
        have e3 : k = maxI b r := by
          have l1 : maxI b r ≤ k := hm _ (s1.elim (fun z => by rw [z]; exact List.mem_cons_self) fun z => List.mem_cons_of_mem _ z)
          have l2 : k ≤ maxI b r := by
            rcases List.mem_cons.mp hk with z | z
            · rw [z]; exact s2
            · exact s3 _ z
          omega
        rw [e3]
        exact RQ.val h rm Rep.int bel_int
theorem pk_min1 : Pk1 t K .min1 (fun v H Q => rMin K [v] H Q) := by
  intro W ρ H m x v Q rm rx bx h
  simp only [prim, p_min1] at h
  cases e : lstOf m x with
  | none => simp only [e] at h; exact False.elim h
  | some xs =>
    simp only [e] at h
    cases e2 : mapO intOf xs with
    | none => simp only [e2] at h; exact False.elim h
    | some ns =>
      simp only [e2] at h
      obtain ⟨a, vs, rfl, sq, rs, bs⟩ := lstOf_ok rm e rx
      rw [ints_of e2 rs] at sq
      cases ns with
      | nil => exact False.elim h
      | cons b r =>
        simp only at h
        refine ⟨a, b :: r, rfl, sq, Nat.succ_pos _, fun k hk hm => ?_⟩
        obtain ⟨s1, s2, s3⟩ := minI_spec r b
        have e3 : k = minI b r := by
          have l1 : k ≤ minI b r := hm _ (s1.elim (fun z => by rw [z]; exact List.mem_cons_self) fun z => List.mem_cons_of_mem _ z)
          have l2 : minI b r ≤ k := by
            rcases List.mem_cons.mp hk with z | z
            · rw [z]; exact s2
            · exact s3 _ z
          omega
        rw [e3]
        exact RQ.val h rm Rep.int bel_int
theorem pk_abs : Pk1 t K .abs (fun v H Q => ∃ i, ([v] : List V) = [.int i] ∧ Q (.int (if i < 0 then -i else i)) H) := by
  intro W ρ H m x v Q rm rx bx h
  cases x <;> try exact False.elim h
  exact ⟨_, by rw [rep_int rx], RQ.val h rm Rep.int bel_int⟩
def r_int : List V → Hp → VK → Prop := fun xs H Q => (∃ i, xs = [.int i] ∧ Q (.int i) H) ∨ ∃ k, xs = [.bl k] ∧ Q (.int (if k then 1 else 0)) H
theorem pk_int : Pk1 t K .int (fun v H Q => r_int [v] H Q) := by
  intro W ρ H m x v Q rm rx bx h
  cases x <;> try exact False.elim h
  · exact .inr ⟨_, by rw [rep_bl rx], RQ.val h rm Rep.int bel_int⟩
  · exact .inl ⟨_, by rw [rep_int rx], RQ.val h rm Rep.int bel_int⟩
def r_bool : List V → Hp → VK → Prop := fun xs H Q => (∃ i, xs = [.int i] ∧ Q (.bl (i != 0)) H) ∨ ∃ k, xs = [.bl k] ∧ Q (.bl k) H
theorem pk_bool : Pk1 t K .bool (fun v H Q => r_bool [v] H Q) := by
  intro W ρ H m x v Q rm rx bx h
  cases x <;> try exact False.elim h
  · exact .inr ⟨_, by rw [rep_bl rx], RQ.val h rm Rep.bl bel_bl⟩
  · exact .inl ⟨_, by rw [rep_int rx], RQ.val h rm Rep.bl bel_bl⟩
def r_str : List V → Hp → VK → Prop := fun xs H Q => (∃ i, xs = [.int i] ∧ i.natAbs.log2 < 1920 ∧ Q (.str (toString i)) H) ∨ ∃ a, xs = [.str a] ∧ Q (.str a) H
theorem o_str {X : Cx} : CallR X (.type "str") r_str := CallR.or call_str_int SkE.call_str_str
theorem pk_str : Pk1 t K .str (fun v H Q => r_str [v] H Q) := by
  intro W ρ H m x v Q rm rx bx h
  cases x <;> try exact False.elim h
  · obtain ⟨h1, h2⟩ := RQ.okIf h
    exact .inl ⟨_, by rw [rep_int rx], of_decide_eq_true h1, RQ.val h2 rm Rep.str bel_str⟩
  · exact .inr ⟨_, by rw [rep_str rx], RQ.val h rm Rep.str bel_str⟩
theorem pk_max2 : Pk2 t K .max2 (fun v u H Q => ∃ i j, ([v, u] : List V) = [.int i, .int j] ∧ Q (.int (if j > i then j else i)) H) := by
  intro W ρ H m x y v u Q rm rx ry bx by_ h
  cases x <;> cases y <;> try exact False.elim h
  exact ⟨_, _, by rw [rep_int rx, rep_int ry], RQ.val h rm Rep.int bel_int⟩
theorem pk_min2 : Pk2 t K .min2 (fun v u H Q => ∃ i j, ([v, u] : List V) = [.int i, .int j] ∧ Q (.int (if j < i then j else i)) H) := by
  intro W ρ H m x y v u Q rm rx ry bx by_ h
  cases x <;> cases y <;> try exact False.elim h
  exact ⟨_, _, by rw [rep_int rx, rep_int ry], RQ.val h rm Rep.int bel_int⟩
end
end NV

set_option Elab.async false
set_option linter.all false
set_option maxRecDepth 100000
set_option maxHeartbeats 4000000
/-! NvPrim3: data as a whole (==, in, repr), sorts, methods. -/
namespace NV
open PySem PySem.Spec PyProof.Rows L2
section
variable {t : Tx} {K : PySem.W.Frag} {ρ : Pl} {H : Hp} {m : Mem} {n : Nat} {W : XK} {Q : VK}
theorem mapO_py {f : Nat} (ih : ∀ (d : D) (p : PyData) (v : V), toPy f m d = some p → Rep t K ρ H d v → Dp K H v p ∧ p.canLay0 = true ∧ p.depth ≤ f) : ∀ {xs : List D} {ps : List PyData} {vs : List V}, mapO (toPy f m) xs = some ps → Reps t K ρ H xs vs →
    DpAll K H vs ps ∧ PyData.canLayAll0 ps = true ∧ PyData.depthAll ps ≤ f
  | [], _, [], h, _ => by
    cases h
    exact ⟨.nil, by simp only [PyData.canLayAll0], by simp only [PyData.depthAll]; exact Nat.zero_le _⟩
  | x :: xs, ps, v :: vs, h, r => by
    obtain ⟨y, ys, rfl, h1, h2⟩ := mapO_cons h
    simp only [Reps] at r
    obtain ⟨a1, a2, a3⟩ := ih x y v h1 r.1
    obtain ⟨b1, b2, b3⟩ := mapO_py ih h2 r.2
    refine ⟨.cons a1 b1, by simp only [PyData.canLayAll0, a2, b2, Bool.and_self], ?_⟩
    simp only [PyData.depthAll]
    exact Nat.max_le.mpr ⟨a3, b3⟩
  | [], _, _ :: _, _, r => by simp [Reps] at r
  | _ :: _, _, [], _, r => by simp [Reps] at r
theorem toPy_ok (rm : RelM t K ρ H m) : ∀ (f : Nat) (d : D) (p : PyData) (v : V), toPy f m d = some p → Rep t K ρ H d v → Dp K H v p ∧ p.canLay0 = true ∧ p.depth ≤ f
  | 0, _, _, _, h, _ => by simp [toPy] at h
  | f + 1, d, p, v, h, r => by
    cases d with
    | non =>
      simp only [toPy, Option.some.injEq] at h
      subst h
      rw [rep_non r]
      exact ⟨.non, by simp only [PyData.canLay0], by simp only [PyData.depth]; exact Nat.zero_le _⟩
    | bl b =>
      simp only [toPy, Option.some.injEq] at h
      subst h
      rw [rep_bl r]
      exact ⟨.bl b, by simp only [PyData.canLay0], by simp only [PyData.depth]; exact Nat.zero_le _⟩
    | int i =>
      simp only [toPy, Option.some.injEq] at h
      subst h
      rw [rep_int r]
      exact ⟨.int i, by simp only [PyData.canLay0], by simp only [PyData.depth]; exact Nat.zero_le _⟩
    | str s =>
      simp only [toPy] at h
      by_cases c : PyData.strOk s = true
      · rw [if_pos c] at h
        cases h
        rw [rep_str r]
        exact ⟨.str s, by simp only [PyData.canLay0, c], by simp only [PyData.depth]; exact Nat.zero_le _⟩
      · rw [if_neg c] at h
        cases h
    | tup xs =>
      simp only [toPy] at h
      cases e : mapO (toPy f m) xs with
      | none => rw [e] at h; cases h
      | some ps =>
        rw [e] at h
        cases h
        obtain ⟨a, vs, rfl, sq, rs⟩ := rep_tup r
        obtain ⟨b1, b2, b3⟩ := mapO_py (fun d p v => toPy_ok rm f d p v) e rs
        refine ⟨.tup sq b1, by simp only [PyData.canLay0, b2], ?_⟩
        simp only [PyData.depth]
        omega
    | loc k =>
      simp only [toPy] at h
      cases g : m.get k with
      | none => rw [g] at h; cases h
      | some o =>
        cases o with
        | lst xs =>
          simp only [g] at h
          cases e : mapO (toPy f m) xs with
          | none => rw [e] at h; cases h
          | some ps =>
            rw [e] at h
            cases h
            obtain ⟨vs, q1, q2, q3⟩ := get_lst rm g
            obtain ⟨b1, b2, b3⟩ := mapO_py (fun d p v => toPy_ok rm f d p v) e q2
            rw [rep_loc r]
            refine ⟨.lst (SqL.of q1) b1, by simp only [PyData.canLay0, b2], ?_⟩
            simp only [PyData.depth]
            omega
        | _ => simp only [g] at h; cases h
    | fn i => simp [toPy] at h
    | thk => simp [toPy] at h
    | er c fs => simp [toPy] at h
    | rol ns => simp [toPy] at h
theorem shaped_of {p : PyData} (h1 : p.canLay0 = true) (h2 : p.depth ≤ deepF) : SeqAt.shaped p = true := by
  unfold SeqAt.shaped
  have h3 : p.depth ≤ 64 := Nat.le_trans h2 (by decide)
  rw [h1, decide_eq_true h3]
  rfl
theorem eqD_ok (rm : RelM t K ρ H m) {x y : D} {v u : V} {b : Bool} (h : eqD m x y = some b) (rx : Rep t K ρ H x v) (ry : Rep t K ρ H y u) : ∃ d e, Dp K H v d ∧ Dp K H u e ∧ SeqAt.shaped d = true ∧ SeqAt.shaped e = true ∧ b = PyData.eqv d e := by
  unfold eqD at h
  cases e1 : toPy deepF m x with
  | none => rw [e1] at h; cases h
  | some p =>
    rw [e1] at h
    cases e2 : toPy deepF m y with
    | none => rw [e2] at h; cases h
    | some q =>
      rw [e2] at h
      cases h
      obtain ⟨a1, a2, a3⟩ := toPy_ok rm _ x p v e1 rx
      obtain ⟨b1, b2, b3⟩ := toPy_ok rm _ y q u e2 ry
      exact ⟨p, q, a1, b1, shaped_of a2 a3, shaped_of b2 b3, rfl⟩
/-- lists compared, one of them empty -/
def rNilE (K : PySem.W.Frag) (neg : Bool) : R2 := fun x y H Q => ∃ (a b : Addr) (xs ys : List V), x = .ref a ∧ y = .ref b ∧ SqL K H a xs ∧ SqL K H b ys ∧ (xs.isEmpty || ys.isEmpty) = true ∧ Q (.bl ((xs.isEmpty && ys.isEmpty) != neg)) H
theorem nil_size {xs : List V} {its : List Value} (r : Vals xs its) : its.toArray.size = xs.length := by rw [List.size_toArray, r.length]
theorem op_nilEq {X : Cx} (hu : X.A.units + 64 < cLine) : OpR X (compareOp .Eq) (rNilE X.K false) := by
  rintro pins s σ H x y v u Q I rx ry ⟨a, b, xs, ys, rfl, rfl, ha, hb, hn, q⟩
  cases rx
  cases ry
  obtain ⟨is, r1, p1, _⟩ := I.list ha
  obtain ⟨js, r2, p2, _⟩ := I.list hb
  have s1 := nil_size r1
  have s2 := nil_size r2
  have hu' : X.A.units < cLine := by omega
  cases xs with
  | nil =>
    cases ys with
    | nil =>
      refine SeqAt.eq_listAt (e := fun _ => true) p1.isList p2.isList (by rw [s1, s2]) hu' (fun j h1 _ => by rw [s1] at h1; cases h1) ?_
      rw [s1]
      exact ⟨.bl true, H, I, rfl, q⟩
    | cons y ys =>
      refine SeqAt.eq_list_lengthsAt p1.isList p2.isList (by rw [s1, s2]; simp) hu' ?_
      exact ⟨.bl false, H, I, rfl, q⟩
  | cons x xs =>
    cases ys with
    | nil =>
      refine SeqAt.eq_list_lengthsAt p1.isList p2.isList (by rw [s1, s2]; simp) hu' ?_
      exact ⟨.bl false, H, I, rfl, q⟩
    | cons y ys => cases hn
theorem op_nilNe {X : Cx} (hu : X.A.units + 64 < cLine) : OpR X (compareOp .NotEq) (rNilE X.K true) := by
  rintro pins s σ H x y v u Q I rx ry ⟨a, b, xs, ys, rfl, rfl, ha, hb, hn, q⟩
  cases rx
  cases ry
  obtain ⟨is, r1, p1, _⟩ := I.list ha
  obtain ⟨js, r2, p2, _⟩ := I.list hb
  have s1 := nil_size r1
  have s2 := nil_size r2
  have hu' : X.A.units < cLine := by omega
  cases xs with
  | nil =>
    cases ys with
    | nil =>
      refine SeqAt.RcNeAt.lists (e := fun _ => true) p1.isList p2.isList (by rw [s1, s2]) hu' (fun j h1 _ => by rw [s1] at h1; cases h1) X.prog X.w _ _ ?_
      rw [s1]
      exact ⟨.bl false, H, I, rfl, q⟩
    | cons y ys =>
      refine SeqAt.RcNeAt.lists_lengths p1.isList p2.isList (by rw [s1, s2]; simp) hu' X.prog X.w _ _ ?_
      exact ⟨.bl true, H, I, rfl, q⟩
  | cons x xs =>
    cases ys with
    | nil =>
      refine SeqAt.RcNeAt.lists_lengths p1.isList p2.isList (by rw [s1, s2]; simp) hu' X.prog X.w _ _ ?_
      exact ⟨.bl true, H, I, rfl, q⟩
    | cons y ys => cases hn
theorem isEmpty_reps {xs : List D} {vs : List V} (r : Reps t K ρ H xs vs) : vs.isEmpty = xs.isEmpty := by
  have := r.length
  cases xs <;> cases vs <;> first | rfl | cases this
theorem nilEq_ok (rm : RelM t K ρ H m) {x y : D} {v u : V} {b neg : Bool} (h : nilEq m x y = some b) (rx : Rep t K ρ H x v) (ry : Rep t K ρ H y u) (q : Q (.bl (b != neg)) H) : rNilE K neg v u H Q := by
  unfold nilEq at h
  cases x <;> cases y <;> simp only at h <;> try (cases h; done)
  rename_i i j
  cases gi : m.get i with
  | none => simp only [gi] at h; cases h
  | some oi =>
    cases gj : m.get j with
    | none => cases oi <;> simp only [gi, gj] at h <;> cases h
    | some oj =>
      cases oi <;> cases oj <;> simp only [gi, gj] at h <;> try (cases h; done)
      rename_i xs ys
      obtain ⟨vs, a1, a2, _⟩ := get_lst rm gi
      obtain ⟨us, b1, b2, _⟩ := get_lst rm gj
      split at h
      · rename_i hc
        cases h
        refine ⟨_, _, vs, us, rep_loc rx, rep_loc ry, .inl (.inl a1), .inl (.inl b1), ?_, ?_⟩
        · rw [isEmpty_reps a2, isEmpty_reps b2]; exact hc
        · rw [isEmpty_reps a2, isEmpty_reps b2]; exact q
      · cases h
def r_eq (K : PySem.W.Frag) : R2 := fun x y H Q => (rEqD K x y H Q ∨ rEq x y H Q) ∨ rNilE K false x y H Q
theorem o_eq {X : Cx} (hu : X.A.units + 64 < cLine) : OpR X (compareOp .Eq) (r_eq X.K) := OpR.or (OpR.or (op_eqD hu) op_eq) (op_nilEq hu)
theorem pk_eq : Pk2 t K .eq (r_eq K) := by
  intro W ρ H m x y v u Q rm rx ry bx by_ h
  by_cases hs : ∃ a b, x = .str a ∧ y = .str b
  · obtain ⟨a, b, rfl, rfl⟩ := hs
    refine .inl (.inr ?_)
    rw [rep_str rx, rep_str ry]
    refine ⟨rfl, ?_⟩
    have e : decide (V.str a = V.str b) = decide (a = b) := by simp
    rw [e]
    exact RQ.val (show RQ srD t K W ρ H m.len (.ok (.bl (decide (a = b))) m) Q from h) rm Rep.bl bel_bl
  have h0 : RQ srD t K W ρ H m.len (match nilEq m x y with
      | some r => .ok (.bl (r)) m
      | none => okB (eqD m x y) m false) Q := by
    cases x <;> cases y <;> first
      | exact h
      | exact absurd ⟨_, _, rfl, rfl⟩ hs
  cases hn : nilEq m x y with
  | some r =>
    simp only [hn] at h0
    refine .inr (nilEq_ok rm hn rx ry ?_)
    have := RQ.val h0 rm (v := .bl (r)) Rep.bl bel_bl
    cases r <;> exact this
  | none =>
  have h' : RQ srD t K W ρ H m.len (okB (eqD m x y) m false) Q := by
    simp only [hn] at h0
    exact h0
  refine .inl (.inl ?_)
  cases e : eqD m x y with
  | none => rw [e] at h'; exact False.elim h'
  | some b =>
    rw [e] at h'
    obtain ⟨d, f, h1, h2, h3, h4, h5⟩ := eqD_ok rm e rx ry
    refine ⟨d, f, h1, h2, h3, h4, ?_⟩
    rw [← h5]
    have h6 := RQ.val h' rm (v := .bl (b != false)) Rep.bl bel_bl
    rw [Bool.bne_false] at h6
    exact h6
def r_ne (K : PySem.W.Frag) : R2 := fun x y H Q => (rNeD K x y H Q ∨ rNe x y H Q) ∨ rNilE K true x y H Q
theorem o_ne {X : Cx} (hu : X.A.units + 64 < cLine) : OpR X (compareOp .NotEq) (r_ne X.K) := OpR.or (OpR.or (op_neD hu) op_ne) (op_nilNe hu)
theorem pk_ne : Pk2 t K .ne (r_ne K) := by
  intro W ρ H m x y v u Q rm rx ry bx by_ h
  by_cases hs : ∃ a b, x = .str a ∧ y = .str b
  · obtain ⟨a, b, rfl, rfl⟩ := hs
    refine .inl (.inr ?_)
    rw [rep_str rx, rep_str ry]
    refine ⟨rfl, ?_⟩
    have e : decide (V.str a = V.str b) = decide (a = b) := by simp
    rw [e]
    exact RQ.val (show RQ srD t K W ρ H m.len (.ok (.bl (!decide (a = b))) m) Q from h) rm Rep.bl bel_bl
  have h0 : RQ srD t K W ρ H m.len (match nilEq m x y with
      | some r => .ok (.bl (!r)) m
      | none => okB (eqD m x y) m true) Q := by
    cases x <;> cases y <;> first
      | exact h
      | exact absurd ⟨_, _, rfl, rfl⟩ hs
  cases hn : nilEq m x y with
  | some r =>
    simp only [hn] at h0
    refine .inr (nilEq_ok rm hn rx ry ?_)
    have := RQ.val h0 rm (v := .bl (!r)) Rep.bl bel_bl
    cases r <;> exact this
  | none =>
  have h' : RQ srD t K W ρ H m.len (okB (eqD m x y) m true) Q := by
    simp only [hn] at h0
    exact h0
  refine .inl (.inl ?_)
  cases e : eqD m x y with
  | none => rw [e] at h'; exact False.elim h'
  | some b =>
    rw [e] at h'
    obtain ⟨d, f, h1, h2, h3, h4, h5⟩ := eqD_ok rm e rx ry
    refine ⟨d, f, h1, h2, h3, h4, ?_⟩
    rw [← h5]
    have h6 := RQ.val h' rm (v := .bl (b != true)) Rep.bl bel_bl
    rw [Bool.bne_true] at h6
    exact h6
def inR' (K : PySem.W.Frag) (neg : Bool) : R2 := fun x y H Q => (∃ a o, y = .ref a ∧ DGet H a x o ∧ Q (.bl (o.isSome != neg)) H) ∨
  (∃ d ds, Dp K H x d ∧ (Dp K H y (.list ds) ∨ Dp K H y (.tuple ds)) ∧ d.canLay0 = true ∧ d.depth ≤ 40 ∧ PyData.canLayAll0 ds = true ∧ Q (.bl ((ds.any fun z => PyData.eqv z d) != neg)) H)
theorem o_in {X : Cx} (hu : X.A.units + 65 < cLine) : OpR X (compareOp .In) (inR' X.K false) := by
  intro pins s σ H x y v u Q I rx ry h
  rcases h with ⟨a, o, rfl, g, q⟩ | ⟨d, ds, hd, he, c1, c2, c3, q⟩
  · obtain rfl : u = Value.ref a := ry
    rw [Bool.bne_false] at q
    exact d_in (by omega) I g rx fun s' I' => ⟨.bl _, H, I', rfl, q⟩
  · rw [Bool.bne_false] at q
    obtain ⟨as, r1⟩ := Dp.reads I d x v hd rx
    rcases he with he | he
    · obtain ⟨bs, r2⟩ := Dp.reads I (.list ds) y u he ry
      exact SeqAt.in_list_reads r2 r1 c3 c1 (by omega) ⟨.bl _, H, I, rfl, q⟩
    · obtain ⟨bs, r2⟩ := Dp.reads I (.tuple ds) y u he ry
      exact SeqAt.in_tuple_reads r2 r1 c3 c1 (by omega) ⟨.bl _, H, I, rfl, q⟩
theorem o_notIn {X : Cx} (hu : X.A.units + 65 < cLine) : OpR X (compareOp .NotIn) (inR' X.K true) := by
  intro pins s σ H x y v u Q I rx ry h
  rcases h with ⟨a, o, rfl, g, q⟩ | ⟨d, ds, hd, he, c1, c2, c3, q⟩
  · obtain rfl : u = Value.ref a := ry
    rw [Bool.bne_true] at q
    exact d_notIn (by omega) I g rx fun s' I' => ⟨.bl _, H, I', rfl, q⟩
  · rw [Bool.bne_true] at q
    obtain ⟨as, r1⟩ := Dp.reads I d x v hd rx
    rcases he with he | he
    · obtain ⟨bs, r2⟩ := Dp.reads I (.list ds) y u he ry
      exact SeqAt.notIn_list_reads r2 r1 c3 c1 (by omega) ⟨.bl _, H, I, rfl, q⟩
    · obtain ⟨bs, r2⟩ := Dp.reads I (.tuple ds) y u he ry
      exact SeqAt.notIn_tuple_reads r2 r1 c3 c1 (by omega) ⟨.bl _, H, I, rfl, q⟩
theorem canLay_list {ds : List PyData} (h : PyData.canLay0 (.list ds) = true) : PyData.canLayAll0 ds = true := by simpa only [PyData.canLay0] using h
theorem inD_ok (rm : RelM t K ρ H m) {x y : D} {v u : V} {b neg : Bool} (h : inD m x y = some b) (rx : Rep t K ρ H x v) (ry : Rep t K ρ H y u) (q : Q (.bl (b != neg)) H) : inR' K neg v u H Q := by
  have core : ∀ (d : PyData) (ds : List PyData), toPy deepF m x = some d → (Dp K H u (.list ds) ∨ Dp K H u (.tuple ds)) → PyData.canLayAll0 ds = true → b = (ds.any fun z => PyData.eqv z d) → inR' K neg v u H Q := fun d ds e1 e2 c e3 => by
    obtain ⟨a1, a2, a3⟩ := toPy_ok rm _ x d v e1 rx
    exact .inr ⟨d, ds, a1, e2, a2, a3, c, by rw [← e3]; exact q⟩
  cases y with
  | loc k =>
    have e := rep_loc ry
    subst e
    have lstc : ∀ g : m.get k ≠ none, (match toPy deepF m x, toPy deepF m (.loc k) with
      | some d, some (.list ds) => some (ds.any fun z => PyData.eqv z d)
      | _, _ => none) = some b → inR' K neg v (.ref (ρ k)) H Q := fun _ h => by
      cases e1 : toPy deepF m x with
      | none => rw [e1] at h; cases h
      | some d =>
        rw [e1] at h
        cases e2 : toPy deepF m (.loc k) with
        | none => rw [e2] at h; cases h
        | some p =>
          rw [e2] at h
          cases p <;> simp only at h <;> try cases h
          rename_i ds
          obtain ⟨b1, b2, b3⟩ := toPy_ok rm _ (.loc k) _ _ e2 ry
          exact core d ds e1 (.inl b1) (canLay_list b2) rfl
    unfold inD at h
    cases g : m.get k with
    | none =>
      simp only [g] at h
      cases e1 : toPy deepF m x with
      | none => rw [e1] at h; cases h
      | some d =>
        have e2 : toPy deepF m (.loc k) = none := by
          show toPy (39 + 1) m (.loc k) = none
          simp only [toPy, g]
        rw [e1, e2] at h
        cases h
    | some o =>
      cases o with
      | dic kvs =>
        simp only [g] at h
        by_cases c : keyD x = true
        · rw [if_pos c] at h
          obtain ⟨qk, ev, hq⟩ := key_rep c rx
          obtain ⟨ks, q1, q2, q3, q4⟩ := get_dic rm g
          subst ev
          refine .inl ⟨_, _, rfl, DGet.k (k := qk) q1, ?_⟩
          have eb : b = (valV ks qk).isSome := by
            rcases dGet_ok hq q2 with ⟨z1, z2⟩ | ⟨d, w, z1, z2, _⟩
            · rw [z1] at h
              rw [z2]
              cases h
              rfl
            · rw [z1] at h
              rw [z2]
              cases h
              rfl
          rw [← eb]
          exact q
        · rw [if_neg c] at h
          cases h
      | lst xs => simp only [g] at h; exact lstc (by rw [g]; simp) h
      | ins c fs => simp only [g] at h; exact lstc (by rw [g]; simp) h
  | tup ys =>
    unfold inD at h
    simp only at h
    cases e1 : toPy deepF m x with
    | none => rw [e1] at h; cases h
    | some d =>
      rw [e1] at h
      cases e2 : mapO (toPy deepF m) ys with
      | none => rw [e2] at h; cases h
      | some ds =>
        rw [e2] at h
        obtain ⟨a, vs, rfl, sq, rs⟩ := rep_tup ry
        obtain ⟨b1, b2, b3⟩ := mapO_py (fun d p v => toPy_ok rm deepF d p v) e2 rs
        exact core d ds e1 (.inr (.tup sq b1)) b2 (by cases h; rfl)
  | _ => simp [inD] at h
theorem pk_in : Pk2 t K .isIn (inR' K false) := by
  intro W ρ H m x y v u Q rm rx ry bx by_ h
  have h' : RQ srD t K W ρ H m.len (okB (inD m x y) m false) Q := h
  cases e : inD m x y with
  | none => rw [e] at h'; exact False.elim h'
  | some b =>
    rw [e] at h'
    exact inD_ok rm e rx ry (RQ.val h' rm Rep.bl bel_bl)
theorem pk_notIn : Pk2 t K .notIn (inR' K true) := by
  intro W ρ H m x y v u Q rm rx ry bx by_ h
  have h' : RQ srD t K W ρ H m.len (okB (inD m x y) m true) Q := h
  cases e : inD m x y with
  | none => rw [e] at h'; exact False.elim h'
  | some b =>
    rw [e] at h'
    exact inD_ok rm e rx ry (RQ.val h' rm Rep.bl bel_bl)
/-! ### repr -/
def r_repr (K : PySem.W.Frag) : List V → Hp → VK → Prop := fun xs H Q => ∃ (x : V) (d : PyData), xs = [x] ∧ Dp K H x d ∧ d.canLay0 = true ∧ d.depth ≤ 40 ∧ d.showable = true ∧ d.shown.length ≤ sizeLine ∧ Q (.str d.shown) H
theorem o_repr {X : Cx} (hg : X.A.guards = some []) (hu : X.A.units + 65 < cLine) : CallR X (.builtin "repr") (r_repr X.K) := by
  intro pins s σ H xs us Q I r h
  obtain ⟨x, d, rfl, hd, c1, c2, hs, hz, q⟩ := h
  obtain ⟨u, rfl, ru⟩ := Vals.one r
  obtain ⟨as, rd⟩ := Dp.reads I d x u hd ru
  cases rd with
  | none => exact PySem.P.repr_of_none ⟨.str _, H, I.tok _, ⟨_, rfl⟩, q⟩
  | bool b => exact PySem.P.repr_of_bool ⟨.str _, H, I.tok _, ⟨_, rfl⟩, q⟩
  | int i tk =>
    have hs' : i.natAbs.log2 < 1920 := by simpa only [PyData.showable, decide_eq_true_eq] using hs
    exact PySem.P.repr_of_int hs' ⟨.str _, H, I.tok _, ⟨_, rfl⟩, q⟩
  | str z tk => exact PySem.P.repr_of_str ⟨.str _, H, I.tok _, ⟨_, rfl⟩, q⟩ hz
  | list h1 h2 h3 h4 =>
    exact repr_of_reads' (h₀ := s.heap) (.list h1 h2 h3 h4) hs (PyData.noDict_hsm (PyData.hasDict_of_canLay _ c1)) hg (by omega) (fun _ _ e => e) (fun h' w tk hk => ⟨.str _, H, I.kept hk, ⟨_, rfl⟩, q⟩) hz
  | tuple h1 h2 h3 h4 =>
    exact repr_of_reads' (h₀ := s.heap) (.tuple h1 h2 h3 h4) hs (PyData.noDict_hsm (PyData.hasDict_of_canLay _ c1)) hg (by omega) (fun _ _ e => e) (fun h' w tk hk => ⟨.str _, H, I.kept hk, ⟨_, rfl⟩, q⟩) hz
  | dict h1 h2 h3 h4 h5 => simp [PyData.canLay0] at c1
theorem pk_repr : Pk1 t K .repr (fun v H Q => r_repr K [v] H Q) := by
  intro W ρ H m x v Q rm rx bx h
  simp only [prim, p_repr] at h
  cases e : toPy deepF m x with
  | none => simp only [e] at h; exact False.elim h
  | some p =>
    simp only [e] at h
    obtain ⟨h1, h2⟩ := RQ.okIf h
    obtain ⟨h3, h4⟩ := Bool.and_eq_true_iff.mp h1
    obtain ⟨a1, a2, a3⟩ := toPy_ok rm _ x p v e rx
    exact ⟨v, p, rfl, a1, a2, a3, h3, of_decide_eq_true h4, RQ.val h2 rm Rep.str bel_str⟩
end
end NV

set_option Elab.async false
set_option linter.all false
set_option maxRecDepth 100000
set_option maxHeartbeats 4000000
/-! NvPrim4: items, sorts, methods, types. -/
namespace NV
open PySem PySem.Spec PyProof.Rows L2
section
variable {t : Tx} {K : PySem.W.Frag} {ρ : Pl} {H : Hp} {m : Mem} {n : Nat} {W : XK} {Q : VK}
/-! ### items -/
def rIxD' : R2 := fun x y H Q => ∃ a v, x = .ref a ∧ DGet H a y (some v) ∧ Q v H
theorem ix_dictD {X : Cx} (hu : X.A.units + 1 < cLine) : IxR X rIxD' := by
  intro value slice pins s σ H x y v u Q I rx ry h hs
  obtain ⟨a, w, rfl, g, q⟩ := h
  cases rx
  exact tail_any (dict_typeIs I g) PySem.F.slot_dict_getitem.lookup (d_getItem hu I g ry fun w' s' I' r' => ⟨w, H, I', r', q⟩) hs
def r_idx (K : PySem.W.Frag) : R2 := fun x y H Q => rIx K x y H Q ∨ rIxD' x y H Q
theorem o_idx {X : Cx} (hu : X.A.units + 1 < cLine) : IxR X (r_idx X.K) := IxR.or ix_seq (ix_dictD hu)
theorem Reps.ints_at {ns : List Int} {i : Int} {x : Int} (h : atD ns i = some x) : atI (ns.map V.int) i = some (.int x) := by
  rw [atD_eq] at h
  unfold atI at h ⊢
  rw [List.length_map]
  cases e : ixN ns.length i with
  | none => rw [e] at h; cases h
  | some j =>
    rw [e] at h
    show (ns.map V.int)[j]? = some (.int x)
    have h' : ns[j]? = some x := h
    rw [List.getElem?_map, h']
    rfl
theorem pk_idx : Pk2 t K .idx (r_idx K) := by
  intro W ρ H m x y v u Q rm rx ry bx by_ h
  cases y <;> try (cases x <;> exact False.elim h)
  · rename_i i
    have ey := rep_int ry
    subst ey
    cases x <;> try exact False.elim h
    · rename_i s
      obtain ⟨h1, h2⟩ := RQ.iteN h
      cases e : atD s.cps.toList i with
      | none => rw [e] at h2; exact False.elim h2
      | some c =>
        rw [e] at h2
        rw [atD_eq] at e
        exact .inl (.inr (.inr ⟨s, i, c, rep_str rx, rfl, h1, e, RQ.val h2 rm Rep.str bel_str⟩))
    · rename_i xs
      have h' : RQ srD t K W ρ H m.len (match atD xs i with | some x => .ok x m | none => .stuck) Q := h
      cases e : atD xs i with
      | none => rw [e] at h'; exact False.elim h'
      | some z =>
        rw [e] at h'
        obtain ⟨a, vs, rfl, sq, rs⟩ := rep_tup rx
        obtain ⟨w, h1, h2, h3⟩ := atI_reps rs e
        exact .inl (.inr (.inl ⟨a, vs, i, w, rfl, rfl, sq, h1, RQ.val h' rm h2 (h3 _ (bel_tup bx))⟩))
    · rename_i k
      have ex := rep_loc rx
      subst ex
      simp only [prim, p_idx] at h
      cases g : m.get k with
      | none => simp only [g] at h; exact False.elim h
      | some o =>
        cases o with
        | dic kvs =>
          simp only [g] at h
          obtain ⟨ks, q1, q2, q3, q4⟩ := get_dic rm g
          obtain ⟨qk, ev, hq⟩ := key_rep (t := t) (K := K) (ρ := ρ) (H := H) (k := .int i) rfl Rep.int
          rcases dGet_ok hq q2 with ⟨z1, z2⟩ | ⟨d, w, z1, z2, z3, z4⟩
          · simp only [z1] at h; exact False.elim h
          · simp only [z1] at h
            refine .inr ⟨_, w, rfl, ?_, RQ.val h rm z3 (z4 _ q4)⟩
            rw [ev, ← z2]
            exact DGet.k q1
        | lst xs =>
          simp only [g] at h
          cases e : atD xs i with
          | none => simp only [e] at h; exact False.elim h
          | some z =>
            simp only [e] at h
            obtain ⟨vs, q1, q2, q3⟩ := get_lst rm g
            obtain ⟨w, h1, h2, h3⟩ := atI_reps q2 e
            exact .inl (.inl ⟨_, vs, i, w, rfl, rfl, SqL.of q1, h1, RQ.val h rm h2 (h3 _ q3)⟩)
        | ins c fs => simp only [g] at h; exact False.elim h
  · rename_i s
    have ey := rep_str ry
    subst ey
    cases x <;> try exact False.elim h
    rename_i k
    have ex := rep_loc rx
    subst ex
    simp only [prim, p_idx] at h
    cases g : m.get k with
    | none => simp only [g] at h; exact False.elim h
    | some o =>
      cases o <;> simp only [g] at h <;> try exact False.elim h
      rename_i kvs
      obtain ⟨ks, q1, q2, q3, q4⟩ := get_dic rm g
      obtain ⟨qk, ev, hq⟩ := key_rep (t := t) (K := K) (ρ := ρ) (H := H) (k := .str s) rfl Rep.str
      rcases dGet_ok hq q2 with ⟨z1, z2⟩ | ⟨d, w, z1, z2, z3, z4⟩
      · simp only [z1] at h; exact False.elim h
      · simp only [z1] at h
        refine .inr ⟨_, w, rfl, ?_, RQ.val h rm z3 (z4 _ q4)⟩
        rw [ev, ← z2]
        exact DGet.k q1
/-! ### slices -/
def r_sl (K : PySem.W.Frag) : V → Option Int → Option Int → Hp → VK → Prop := fun x lo hi H Q => rSlS x lo hi H Q ∨ rSlA K x lo hi H Q ∨ rSlL K x lo hi H Q
theorem o_sl {X : Cx} : SlR X (r_sl X.K) := SlR.or sl_str (SlR.or sl_tupA sl_list)
theorem cutL_eq (xs : List V) (lo hi : Option Int) : cutL xs lo hi = cutV xs lo hi := by
  unfold cutL cutV
  rw [sIx_eq, sIx_eq]
theorem Reps.cut {ds : List D} {vs : List V} (r : Reps t K ρ H ds vs) (lo hi : Option Int) : Reps t K ρ H (cutL ds lo hi) (cutV vs lo hi) := by
  rw [← cutL_eq]
  unfold cutL
  rw [r.length]
  exact Reps.take _ (Reps.drop _ r)
theorem bels_cut {ds : List D} (b : D.bels n ds) (lo hi : Option Int) : D.bels n (cutL ds lo hi) := bels_iff.mpr fun x hx => bels_iff.mp b x (List.mem_of_mem_drop (List.mem_of_mem_take hx))
theorem pk_sl {x : D} {v : V} {lo hi : Option Int} (rm : RelM t K ρ H m) (rx : Rep t K ρ H x v) (bx : x.bel m.len) (h : RQ srD t K W ρ H m.len (sliceD x lo hi m) Q) : r_sl K v lo hi H Q := by
  cases x <;> try exact False.elim h
  · obtain ⟨h1, h2⟩ := RQ.okIf h
    refine .inl ⟨_, rep_str rx, of_decide_eq_true h1, ?_⟩
    have h3 := RQ.val h2 rm Rep.str bel_str
    have e : ∀ z : Str, (⟨(cutL z.cps.toList lo hi).toArray⟩ : Str) = cutS z lo hi := fun z => by
      unfold cutL cutS
      rw [sIx_eq, sIx_eq]
      rfl
    rw [e] at h3
    exact h3
  · rename_i xs
    obtain ⟨a, vs, rfl, sq, rs⟩ := rep_tup rx
    refine .inr (.inl ⟨a, vs, rfl, sq, fun hw => ?_, fun _ => RQ.newT h rm (rs.cut lo hi) (bels_cut (bel_tup bx) lo hi)⟩)
    have ew : cutV vs lo hi = vs := by
      unfold cutV
      rw [hw.1, hw.2, Nat.sub_zero, List.drop_zero, List.take_length]
    refine RQ.val h rm ?_ (by simpa only [D.bel] using bels_cut (bel_tup bx) lo hi)
    simp only [Rep]
    exact ⟨a, vs, rfl, sq, by have := rs.cut lo hi; rw [ew] at this; exact this⟩
  · rename_i k
    have h' : RQ srD t K W ρ H m.len (match lstOf m (.loc k) with | some xs => .ok (.loc m.len) (m.push (.lst (cutL xs lo hi))) | none => .stuck) Q := h
    cases e : lstOf m (.loc k) with
    | none => rw [e] at h'; exact False.elim h'
    | some xs =>
      rw [e] at h'
      obtain ⟨a, vs, rfl, sq, rs, bs⟩ := lstOf_ok rm e rx
      exact .inr (.inr ⟨a, vs, rfl, sq, RQ.newLst h' rm (rs.cut lo hi) (bels_cut bs lo hi)⟩)
theorem pk_rev {x : D} {v : V} (rm : RelM t K ρ H m) (rx : Rep t K ρ H x v) (bx : x.bel m.len) (h : RQ srD t K W ρ H m.len (revD x m) Q) : ∃ a xs, v = .ref a ∧ SqL K H a xs ∧ ∀ p, H p = none → Q (.ref p) (upd H p (.lst xs.reverse)) := by
  unfold revD at h
  cases e : lstOf m x with
  | none => rw [e] at h; exact False.elim h
  | some xs =>
    rw [e] at h
    obtain ⟨a, vs, rfl, sq, rs, bs⟩ := lstOf_ok rm e rx
    exact ⟨a, vs, rfl, sq, RQ.newLst h rm rs.rev (bels_iff.mpr fun x hx => bels_iff.mp bs x (List.mem_reverse.mp hx))⟩
/-! ### index -/
theorem indexOf_spec {d : PyData} : ∀ {ds : List PyData} {k j : Nat}, indexOf d ds k = some j → ∃ i, j = k + i ∧ ∃ z, ds[i]? = some z ∧ PyData.eqv z d = true ∧ ∀ (l : Nat) (z' : PyData), l < i → ds[l]? = some z' → PyData.eqv z' d = false
  | [], _, _, h => by cases h
  | z :: r, k, j, h => by
    unfold indexOf at h
    by_cases c : PyData.eqv z d = true
    · rw [if_pos c] at h
      cases h
      exact ⟨0, rfl, z, rfl, c, fun l z' hl => absurd hl (Nat.not_lt_zero _)⟩
    · rw [if_neg c] at h
      obtain ⟨i, e, w, h1, h2, h3⟩ := indexOf_spec h
      refine ⟨i + 1, by omega, w, by simpa using h1, h2, fun l z' hl hz => ?_⟩
      cases l with
      | zero =>
        simp at hz
        rw [← hz]
        simpa using c
      | succ l => exact h3 l z' (by omega) (by simpa using hz)
theorem pk_index : Pk2 t K .index (fun v u H Q => rIndexD K v [u] H Q) := by
  intro W ρ H m x y v u Q rm rx ry bx by_ h
  simp only [prim, p_index] at h
  cases e1 : toPy deepF m x with
  | none => simp only [e1] at h; exact False.elim h
  | some p =>
    cases e2 : toPy deepF m y with
    | none => simp only [e1, e2] at h; cases p <;> exact False.elim h
    | some d =>
      cases p <;> simp only [e1, e2] at h <;> try exact False.elim h
      rename_i ds
      cases e3 : indexOf d ds 0 with
      | none => simp only [e3] at h; exact False.elim h
      | some j =>
        simp only [e3] at h
        obtain ⟨a1, a2, a3⟩ := toPy_ok rm _ x _ v e1 rx
        obtain ⟨b1, b2, b3⟩ := toPy_ok rm _ y _ u e2 ry
        obtain ⟨i, e4, z, h1, h2, h3⟩ := indexOf_spec e3
        rw [Nat.zero_add] at e4
        subst e4
        have q := RQ.val h rm Rep.int bel_int
        have sh := shaped_of a2 a3
        have sd := shaped_of b2 b3
        cases a1 with
        | lst sq da => exact ⟨_, u, d, ds, j, z, rfl, rfl, .lst sq da, b1, sh, sd, h1, h2, h3, q⟩
/-! ### what a method writes -/
theorem RQ.nonW {ρ' : Pl} {H' : Hp} {m' : Mem} (h : RQ srD t K W ρ H n (.ok .non m') Q) (e : Ext ρ H n ρ' H' m'.len) (rm : RelM t K ρ' H' m') (hl : n ≤ m'.len) : Q .non H' :=
  h ρ' H' .non e rm (show Rep t K ρ' H' .non .non from Rep.non) (show D.bel m'.len .non from bel_non) hl
theorem ref_lst {k : Nat} {ds : List D} (rm : RelM t K ρ H m) (g : m.get k = some (.lst ds)) {es : List D} {us : List V} {nl : Bool} (r : Reps t K ρ H es us) (b : D.bels m.len es) (hb : nl = true → D.bels (limW m.wr k) es) :
    RelM t K ρ (upd H (ρ k) (.lst us)) (m.put k (.lst es) nl) ∧ Ext ρ H m.len ρ (upd H (ρ k) (.lst us)) (m.put k (.lst es) nl).len := by
  rw [len_put]
  obtain ⟨vs, q1, q2, q3⟩ := get_lst rm g
  have e := ext_put (ρ := ρ) (n := m.len) (o := .lst us) (get_lt g) q1 (fun _ z => by cases z) (fun _ _ z => by cases z)
  refine ⟨rm.put (u := .lst vs) g rfl rfl q1 (fun _ z => by cases z) (fun _ _ z => by cases z) ⟨us, upd_same, Reps.ext e es us b r⟩ ?_, e⟩
  cases nl with
  | true => exact hb rfl
  | false => exact b
theorem pk_append : Pk2 t K .append (fun v u H Q => rAppend v [u] H Q) := by
  intro W ρ H m x y v u Q rm rx ry bx by_ h
  cases x <;> try exact False.elim h
  rename_i k
  have ex := rep_loc rx
  subst ex
  simp only [prim, p_append] at h
  cases g : m.get k with
  | none => simp only [g] at h; exact False.elim h
  | some o =>
    cases o <;> simp only [g] at h <;> try exact False.elim h
    rename_i xs
    obtain ⟨h1, h2⟩ := RQ.iteN h
    obtain ⟨vs, q1, q2, q3⟩ := get_lst rm g
    have b1 : D.bels (limW m.wr k) xs := (rm.ob k _ g).2
    obtain ⟨rm', e'⟩ := ref_lst (nl := y.nl) (es := xs ++ [y]) (us := vs ++ [u]) rm g (Reps.append q2 (by simp only [Reps]; exact ⟨ry, trivial⟩)) (bels_append q3 (by simp only [D.bels]; exact ⟨by_, trivial⟩))
      (fun hn => bels_append b1 (by simp only [D.bels]; exact ⟨D.bel_nl y hn, trivial⟩))
    exact ⟨_, vs, u, rfl, rfl, q1, by rw [← q2.length]; exact h1, RQ.nonW h2 e' rm' (by rw [len_put]; exact Nat.le_refl _)⟩
theorem pk_pop0 : Pk1 t K .pop0 (fun v H Q => rPop v [] H Q) := by
  intro W ρ H m x v Q rm rx bx h
  cases x <;> try exact False.elim h
  rename_i k
  have ex := rep_loc rx
  subst ex
  simp only [prim, p_pop0] at h
  cases g : m.get k with
  | none => simp only [g] at h; exact False.elim h
  | some o =>
    cases o <;> simp only [g] at h <;> try exact False.elim h
    rename_i xs
    cases e : xs.getLast? with
    | none => simp only [e] at h; exact False.elim h
    | some z =>
      simp only [e] at h
      obtain ⟨vs, q1, q2, q3⟩ := get_lst rm g
      have b1 : D.bels (limW m.wr k) xs := (rm.ob k _ g).2
      rw [List.getLast?_eq_getElem?] at e
      obtain ⟨w, h1, h2⟩ := q2.get e
      have dl : Reps t K ρ H xs.dropLast vs.dropLast := by
        rw [List.dropLast_eq_take, List.dropLast_eq_take, ← q2.length]
        exact Reps.take _ q2
      have bd : ∀ {n}, D.bels n xs → D.bels n xs.dropLast := fun b => bels_iff.mpr fun y hy => bels_iff.mp b y (by rw [List.dropLast_eq_take] at hy; exact List.mem_of_mem_take hy)
      obtain ⟨rm', e'⟩ := ref_lst (nl := true) (es := xs.dropLast) (us := vs.dropLast) rm g dl (bd q3) (fun _ => bd b1)
      rw [q2.length] at h1
      exact ⟨_, vs, w, rfl, rfl, q1, h1, h ρ _ w e' rm' (Rep.ext e' z w (bels_get q3 e) h2) (by rw [len_put]; exact bels_get q3 e) (by rw [len_put]; exact Nat.le_refl _)⟩
theorem erase_at {k : Int} : ∀ {ns : List Int}, k ∈ ns → ∃ j : Nat, ns[j]? = some k ∧ (∀ m : Nat, m < j → ns[m]? ≠ some k) ∧ ns.eraseIdx j = ns.erase k
  | [], h => by cases h
  | a :: r, h => by
    by_cases c : a = k
    · refine ⟨0, by simp [c], fun m hm => absurd hm (Nat.not_lt_zero _), ?_⟩
      rw [c, List.erase_cons_head]
      rfl
    · rcases List.mem_cons.mp h with e | h
      · exact absurd e.symm c
      · obtain ⟨j, h1, h2, h3⟩ := erase_at h
        refine ⟨j + 1, by simpa using h1, fun m hm => ?_, ?_⟩
        · cases m with
          | zero => simp [c]
          | succ m => simpa using h2 m (by omega)
        · rw [List.eraseIdx_cons_succ, h3, List.erase_cons_tail (by simpa using c)]
theorem pk_remove : Pk2 t K .remove (fun v u H Q => rRemI v [u] H Q) := by
  intro W ρ H m x y v u Q rm rx ry bx by_ h
  cases x <;> cases y <;> try exact False.elim h
  rename_i a k
  have ex := rep_loc rx
  subst ex
  have ey := rep_int ry
  subst ey
  simp only [prim, p_remove] at h
  cases g : m.get a with
  | none => simp only [g] at h; exact False.elim h
  | some o =>
    cases o <;> simp only [g] at h <;> try exact False.elim h
    rename_i xs
    cases e : mapO intOf xs with
    | none => simp only [e] at h; exact False.elim h
    | some ns =>
      simp only [e] at h
      obtain ⟨h1, h2⟩ := RQ.iteN h
      obtain ⟨vs, q1, q2, q3⟩ := get_lst rm g
      rw [ints_of e q2] at q1
      obtain ⟨j, s1, s2, s3⟩ := erase_at (by simpa using h1)
      obtain ⟨rm', e'⟩ := ref_lst (nl := true) (es := (ns.erase k).map .int) (us := (ns.erase k).map V.int) rm g (Reps.ints _) (bels_ints _) (fun _ => bels_ints _)
      refine ⟨_, ns, k, j, rfl, rfl, q1, s1, s2, ?_⟩
      rw [s3]
      exact RQ.nonW h2 e' rm' (by rw [len_put]; exact Nat.le_refl _)
/-! ### list(d.items()) -/
theorem RelM.keep {H' : Hp} (rm : RelM t K ρ H m) (k : ∀ b o, H b = some o → H' b = some o) : RelM t K ρ H' m :=
  ⟨fun i o h => ⟨RepO.keep (n := m.len) (n2 := m.len) ⟨fun _ _ => rfl, fun _ _ e => k _ _ e, fun _ _ _ e => k _ _ e, fun _ _ e _ _ => k _ _ e, fun _ _ _ _ z => z⟩ (rm.bel h) (fun _ e => k _ _ e) (rm.ob i o h).1, (rm.ob i o h).2⟩, rm.inj, rm.esc, fun p hp => (rm.tbs p hp).ext k⟩
theorem items_reps {H' : Hp} : ∀ {ts : List Addr} {ks : List (Key × V)} {kvs : List (D × D)}, Paired (fun (t : Addr) (q : Key × V) => H' t = some (.tup [kV q.1, q.2])) ts ks → RepKv t K ρ H' kvs ks → Reps t K ρ H' (kvs.map fun p => .tup [p.1, p.2]) (ts.map V.ref)
  | [], [], [], _, _ => by simp [Reps]
  | a :: ts, (q, v) :: ks, (k, x) :: kvs, .cons h p, ⟨h1, h2, h3, h4⟩ => by
    simp only [List.map_cons, Reps, Rep]
    refine ⟨⟨a, [kV q, v], rfl, .inl (.inl h), ?_⟩, items_reps p h4⟩
    simp only [Reps]
    exact ⟨h1, h3, trivial⟩
  | [], [], _ :: _, _, h => h.elim
  | _ :: _, (_, _) :: _, [], _, h => h.elim
theorem belKv_items : ∀ {kvs : List (D × D)}, belKv n kvs → D.bels n (kvs.map fun p => .tup [p.1, p.2])
  | [], _ => by simp [D.bels]
  | (k, x) :: kvs, ⟨h1, h2, h3⟩ => by
    simp only [List.map_cons, D.bels, D.bel, and_true]
    exact ⟨⟨h1, h2⟩, belKv_items h3⟩
theorem pk_lstItems : Pk1 t K .lstItems LiI.rItemsL := by
  intro W ρ H m x v Q rm rx bx h
  cases x <;> try exact False.elim h
  rename_i k
  have ex := rep_loc rx
  subst ex
  simp only [prim, p_lstItems] at h
  cases g : m.get k with
  | none => simp only [g] at h; exact False.elim h
  | some o =>
    cases o <;> simp only [g] at h <;> try exact False.elim h
    rename_i kvs
    obtain ⟨ks, q1, q2, q3, q4⟩ := get_dic rm g
    obtain ⟨h1, h2⟩ := RQ.iteN h
    refine ⟨_, ks, rfl, q1, fun H' p ts kp hp hts hn hl pr => ?_⟩
    have ex : Ext ρ H m.len ρ H' m.len := ⟨fun _ _ => rfl, fun _ _ e => kp _ _ e, fun _ _ _ e => kp _ _ e, fun _ _ e _ _ => kp _ _ e, fun _ _ _ _ k => k⟩
    have rs := items_reps pr (RepKv.ext ex kvs ks q4 q2)
    have bs := belKv_items q4
    -- the heap without the new list, then with it
    refine h2 (plAt ρ m.len p) H' (.ref p) (by rw [len_push]; exact ex.place hp) ?_ ?_ ?_ (by rw [len_push]; exact Nat.le_succ _)
    · have rm' := rm.keep kp
      refine ⟨fun i o hi => ?_, fun i j oi oj g1 g2 r1 r2 e => ?_, by rw [len_push]; exact fun p hp => Nat.le_succ_of_le (rm.esc p hp), rm'.tbs⟩
      · rw [get_push] at hi
        by_cases c : i = m.len
        · rw [if_pos c] at hi
          cases hi
          subst c
          refine ⟨⟨_, by rw [plAt_same]; exact hl, Reps.ext ext_at0 _ _ bs rs⟩, ?_⟩
          exact Ob.bel_le (Nat.le_trans (Nat.le_succ _) (le_lim _ _)) (.lst _) bs
        · rw [if_neg c] at hi
          refine ⟨?_, (rm.ob i o hi).2⟩
          rw [plAt_ne c]
          exact RepO.keep (n := m.len) ext_at0 (rm.bel hi) (fun _ e => e) (rm'.ob i o hi).1
      · rw [get_push] at g1 g2
        by_cases ci : i = m.len
        · by_cases cj : j = m.len
          · rw [ci, cj]
          · rw [if_neg cj] at g2
            rw [ci, plAt_same, plAt_ne cj] at e
            obtain ⟨z, hz⟩ := rm.tracked j oj g2 r2
            rw [← e, hp] at hz
            cases hz
        · rw [if_neg ci] at g1
          by_cases cj : j = m.len
          · rw [cj, plAt_same, plAt_ne ci] at e
            obtain ⟨z, hz⟩ := rm.tracked i oi g1 r1
            rw [e, hp] at hz
            cases hz
          · rw [if_neg cj] at g2
            rw [plAt_ne ci, plAt_ne cj] at e
            exact rm.inj i j oi oj g1 g2 r1 r2 e
    · show Rep t K (plAt ρ m.len p) H' (.loc m.len) (.ref p)
      simp only [Rep]
      rw [plAt_same]
    · show D.bel _ (.loc m.len)
      simp only [D.bel]
      rw [len_push]
      exact Nat.lt_succ_self _
/-! ### d.get(k, x) -/
def r_get2 : V → V → V → Hp → VK → Prop := fun x y z H Q => ∃ a, x = .ref a ∧ IsD H a ∧ ∃ o, DGet H a y o ∧ Q (o.getD z) H
theorem pk_get2 {x y z : D} {v u w : V} (rm : RelM t K ρ H m) (rx : Rep t K ρ H x v) (ry : Rep t K ρ H y u) (rz : Rep t K ρ H z w) (bz : z.bel m.len) (h : RQ srD t K W ρ H m.len (prim .get2 [x, y, z] m) Q) : r_get2 v u w H Q := by
  cases x <;> try exact False.elim h
  rename_i k
  have ex := rep_loc rx
  subst ex
  simp only [prim, p_get2] at h
  cases g : m.get k with
  | none => simp only [g] at h; exact False.elim h
  | some o =>
    cases o <;> simp only [g] at h <;> try exact False.elim h
    rename_i kvs
    obtain ⟨h1, h2⟩ := RQ.iteN h
    obtain ⟨ks, q1, q2, q3, q4⟩ := get_dic rm g
    obtain ⟨qk, ev, hq⟩ := key_rep h1 ry
    subst ev
    refine ⟨_, rfl, .inl ⟨ks, .inl q1⟩, _, DGet.k (k := qk) q1, ?_⟩
    rcases dGet_ok hq q2 with ⟨z1, z2⟩ | ⟨d, w', z1, z2, z3, z4⟩
    · rw [z1] at h2
      rw [z2]
      exact RQ.val h2 rm rz bz
    · rw [z1] at h2
      rw [z2]
      exact RQ.val h2 rm z3 (z4 _ q4)
/-! ### types -/
def tyS : Ty → String
  | .non => "NoneType"
  | .bl => "bool"
  | .int => "int"
  | .str => "str"
  | .tup => "tuple"
  | .lst => "list"
  | .dic => "dict"
theorem tyX_of (rm : RelM t K ρ H m) {x : D} {v : V} {k : Ty} (h : tyD m x = some k) (rx : Rep t K ρ H x v) : TyX K H v (.type (tyS k)) := by
  cases x with
  | non => cases h; rw [rep_non rx]; exact .base .non
  | bl b => cases h; rw [rep_bl rx]; exact .base (.bl b)
  | int i => cases h; rw [rep_int rx]; exact .base (.int i)
  | str s => cases h; rw [rep_str rx]; exact .base (.str s)
  | tup ds =>
    cases h
    obtain ⟨a, vs, rfl, sq, rs⟩ := rep_tup rx
    rcases sq with (q | ⟨o, q⟩) | ⟨o, its, n, q, c, _⟩
    · exact .base (.tup q)
    · exact .fTuple q
    · exact .kTuple q c
  | loc j =>
    rw [rep_loc rx]
    simp only [tyD] at h
    cases g : m.get j with
    | none => rw [g] at h; cases h
    | some o =>
      cases o with
      | lst xs =>
        simp only [g] at h
        cases h
        obtain ⟨vs, q1, _⟩ := get_lst rm g
        exact .base (.lst q1)
      | dic kvs =>
        simp only [g] at h
        cases h
        obtain ⟨vs, q1, _⟩ := get_dic rm g
        exact .base (.dK q1)
      | ins c fs => simp only [g] at h; cases h
  | _ => simp [tyD] at h
theorem pk_is {f : Ty → Bool} {T : String} (hf : ∀ k, kitB (tyS k) T = some (f k)) : ∀ (W : XK) (ρ : Pl) (H : Hp) (m : Mem) (x : D) (v : V) (Q : VK), RelM t K ρ H m → Rep t K ρ H x v → RQ srD t K W ρ H m.len (p_is f [x] m) Q → rIsi K [v, .ty T] H Q := by
  intro W ρ H m x v Q rm rx h
  have h' : RQ srD t K W ρ H m.len (match tyD m x with | some k => .ok (.bl (f k)) m | none => .stuck) Q := h
  cases e : tyD m x with
  | none => rw [e] at h'; exact False.elim h'
  | some k =>
    rw [e] at h'
    exact ⟨v, .ty T, .type (tyS k), .type T, f k, rfl, .ty T, tyX_of rm e rx, kit_ty (hf k), RQ.val h' rm Rep.bl bel_bl⟩
theorem kit_int : ∀ k, kitB (tyS k) "int" = some (tInt k) := by intro k; cases k <;> decide +kernel
theorem kit_bool : ∀ k, kitB (tyS k) "bool" = some (tBool k) := by intro k; cases k <;> decide +kernel
theorem kit_tuple : ∀ k, kitB (tyS k) "tuple" = some (tTuple k) := by intro k; cases k <;> decide +kernel
theorem kit_str : ∀ k, kitB (tyS k) "str" = some (tStr k) := by intro k; cases k <;> decide +kernel
theorem kit_list : ∀ k, kitB (tyS k) "list" = some (tList k) := by intro k; cases k <;> decide +kernel
end
end NV

set_option Elab.async false
set_option linter.all false
set_option maxRecDepth 100000
set_option maxHeartbeats 4000000
/-! NvSort: sorted(..) of ints, of pairs of ints. -/
namespace NV
open PySem PySem.Spec PyProof.Rows L2

section
variable {α : Type}
theorem perm_sorted {le : α → α → Prop} (anti : ∀ a b, le a b → le b a → a = b) : ∀ {l m : List α}, l.Perm m → l.Pairwise le → m.Pairwise le → l = m
  | [], m, p, _, _ => p.nil_eq
  | x :: l, [], p, _, _ => absurd p.length_eq (by simp)
  | x :: l, y :: m, p, hl, hm => by
    rw [List.pairwise_cons] at hl hm
    have e : x = y := by
      have h1 : x ∈ y :: m := p.mem_iff.mp (List.mem_cons_self ..)
      have h2 : y ∈ x :: l := p.mem_iff.mpr (List.mem_cons_self ..)
      rcases List.mem_cons.mp h1 with e | h1
      · exact e
      · rcases List.mem_cons.mp h2 with e | h2
        · exact e.symm
        · exact anti x y (hl.1 y h2) (hm.1 x h1)
    subst e
    rw [perm_sorted anti p.cons_inv hl.2 hm.2]
variable {lt : α → α → Bool}
theorem insB_perm (x : α) : ∀ l : List α, (insB lt x l).Perm (x :: l)
  | [] => .refl _
  | y :: ys => by
    unfold insB
    split
    · exact .refl _
    · exact ((insB_perm x ys).cons y).trans (.swap x y ys)
theorem isort_perm : ∀ l : List α, (isort lt l).Perm l
  | [] => .refl _
  | x :: xs => by
    unfold isort
    exact (insB_perm x _).trans ((isort_perm xs).cons x)
theorem insB_sorted {le : α → α → Prop} (h1 : ∀ a b, lt a b = true → le a b) (h2 : ∀ a b, lt a b = false → le b a) (tr : ∀ a b c, le a b → le b c → le a c) (x : α) : ∀ l : List α, l.Pairwise le → (insB lt x l).Pairwise le
  | [], _ => List.pairwise_singleton _ _
  | y :: ys, h => by
    have hy := List.pairwise_cons.mp h
    unfold insB
    split
    · rename_i hc
      refine List.pairwise_cons.mpr ⟨fun z hz => ?_, h⟩
      rcases List.mem_cons.mp hz with e | hz
      · rw [e]; exact h1 x y hc
      · exact tr x y z (h1 x y hc) (hy.1 z hz)
    · rename_i hc
      refine List.pairwise_cons.mpr ⟨fun z hz => ?_, insB_sorted h1 h2 tr x ys hy.2⟩
      rcases List.mem_cons.mp ((insB_perm x ys).mem_iff.mp hz) with e | hz
      · rw [e]; exact h2 x y (by simpa using hc)
      · exact hy.1 z hz
theorem isort_sorted {le : α → α → Prop} (h1 : ∀ a b, lt a b = true → le a b) (h2 : ∀ a b, lt a b = false → le b a) (tr : ∀ a b c, le a b → le b c → le a c) : ∀ l : List α, (isort lt l).Pairwise le
  | [] => .nil
  | x :: xs => by
    unfold isort
    exact insB_sorted h1 h2 tr x _ (isort_sorted h1 h2 tr xs)
end
def leP (p q : Int × Int) : Prop := p.1 < q.1 ∨ (p.1 = q.1 ∧ p.2 ≤ q.2)
theorem leP_anti (a b : Int × Int) (h1 : leP a b) (h2 : leP b a) : a = b := by
  unfold leP at h1 h2
  apply Prod.ext <;> omega
theorem ltP_le (a b : Int × Int) (h : ltP a b = true) : leP a b := by
  unfold ltP at h
  unfold leP
  simp only [Bool.or_eq_true, Bool.and_eq_true, decide_eq_true_eq] at h
  omega
theorem ltP_ge (a b : Int × Int) (h : ltP a b = false) : leP b a := by
  unfold ltP at h
  unfold leP
  simp only [Bool.or_eq_false_iff, Bool.and_eq_false_iff, decide_eq_false_iff_not] at h
  omega
theorem leP_tr (a b c : Int × Int) (h1 : leP a b) (h2 : leP b c) : leP a c := by
  unfold leP at *
  omega

/-- an item stands for a pair -/
def Pr2 (K : PySem.W.Frag) (H : Hp) (x : V) (p : Int × Int) : Prop := ∃ a, x = .ref a ∧ SqT K H a [.int p.1, .int p.2]
def rSrtP (K : PySem.W.Frag) : List V → Hp → VK → Prop := fun vs H Q => ∃ (a : Addr) (xs : List V) (ps : List (Int × Int)), vs = [.ref a] ∧ SqL K H a xs ∧ Paired (Pr2 K H) xs ps ∧
  ∀ ys p, Paired (Pr2 K H) ys (isort ltP ps) → H p = none → Q (.ref p) (upd H p (.lst ys))
theorem paired_map {α β : Type} {F : α → β → Prop} {f : α → β} : ∀ {xs : List α} {ys : List β}, Paired F xs ys → (∀ x y, F x y → f x = y) → xs.map f = ys
  | _, _, .nil, _ => rfl
  | _, _, .cons r t, h => by rw [List.map_cons, h _ _ r, paired_map t h]
theorem paired_of {α β : Type} {F : α → β → Prop} {f : α → β} : ∀ {xs : List α}, (∀ x ∈ xs, F x (f x)) → Paired F xs (xs.map f)
  | [], _ => .nil
  | x :: xs, h => .cons (h x (List.mem_cons_self ..)) (paired_of fun y hy => h y (List.mem_cons_of_mem _ hy))
theorem paired_mem {α β : Type} {F : α → β → Prop} : ∀ {xs : List α} {ys : List β}, Paired F xs ys → ∀ x ∈ xs, ∃ y, F x y
  | _, _, .nil, _, h => by cases h
  | _, _, .cons r t, x, h => by
    rcases List.mem_cons.mp h with e | h
    · rw [e]; exact ⟨_, r⟩
    · exact paired_mem t x h
open Classical in
theorem cr_srtP {X : Cx} : CallR X (.builtin "sorted") (rSrtP X.K) := by
  intro pins s σ H vs us Q I r h
  obtain ⟨a, xs, ps, rfl, hs, hp, q⟩ := h
  obtain ⟨its, rv, hl, hz⟩ := I.list hs
  obtain ⟨u, rfl, ru⟩ := vals1 r
  have eu : u = Value.ref a := ru
  subst eu
  -- the pair of an item, by what stands there
  let k : V → Int × Int := fun v => if c : ∃ p, Pr2 X.K H v p then Classical.choose c else (0, 0)
  have kk : ∀ x p, Pr2 X.K H x p → k x = p := fun x p hx => by
    have c : ∃ p, Pr2 X.K H x p := ⟨p, hx⟩
    show (if c : ∃ p, Pr2 X.K H x p then Classical.choose c else (0, 0)) = p
    rw [dif_pos c]
    obtain ⟨b, e1, s1⟩ := Classical.choose_spec c
    obtain ⟨b2, e2, s2⟩ := hx
    rw [e1] at e2
    cases e2
    have z := I.tuple_inj s1 s2
    simp only [List.cons.injEq, V.int.injEq, and_true] at z
    exact Prod.ext z.1 z.2
  have kx : xs.map k = ps := paired_map hp kk
  have kp : ∀ x ∈ xs, Pr2 X.K H x (k x) := fun x m => by
    obtain ⟨p, hx⟩ := paired_mem hp x m
    rw [kk x p hx]
    exact hx
  obtain ⟨e1, e2⟩ := refs_back rv fun x m => by
    obtain ⟨b, e, _⟩ := kp x m
    exact ⟨b, e⟩
  refine SrtO.sorted_pairsO (k := fun u => k (backV u)) hl.isList (by rw [← rv.length]; exact hz) (fun v hv => ?_) fun h' d out h1 h2 keep hd hn => ?_
  · obtain ⟨b, rfl⟩ := e2 v hv
    have hm : V.ref b ∈ xs := by rw [e1]; exact List.mem_map.mpr ⟨_, hv, rfl⟩
    obtain ⟨b', e, sq⟩ := kp _ hm
    cases e
    obtain ⟨its2, r2, ⟨o, ho, hc, n, hd⟩, _⟩ := I.tuple sq
    obtain ⟨u1, u2, rfl, ri, rj⟩ := vals2 r2
    obtain ⟨t1, rfl⟩ := ri
    obtain ⟨t2, rfl⟩ := rj
    exact ⟨b, o, t1, t2, n, rfl, ho, hc, hd⟩
  · have h3 : ∀ u ∈ out, ∃ a, u = Value.ref a := fun u hu => e2 u (h2.perm.mem_iff.mp hu)
    obtain ⟨n, hn⟩ := hn
    have pm : (out.map backV).Perm xs := by
      rw [e1]
      exact h2.perm.map backV
    have so : ((out.map backV).map k).Pairwise leP := by
      rw [List.map_map]
      refine List.pairwise_map.mpr (h1.imp fun {x y} hxy => ?_)
      have z := SrtO.lexB_no.mp hxy
      show leP (k (backV x)) (k (backV y))
      unfold leP
      omega
    have es : (out.map backV).map k = isort ltP ps := by
      refine perm_sorted leP_anti ?_ so (isort_sorted ltP_le ltP_ge leP_tr ps)
      refine (pm.map k).trans ?_
      rw [kx]
      exact (isort_perm ps).symm
    refine ⟨.ref d, upd H d (.lst (out.map backV)), I.laid (t' := s.toks) keep hd ⟨?_, out, n, vals_back h3, hn⟩, rfl, q _ d ?_ (I.hok.fresh hd)⟩
    · rw [pm.length_eq]
      exact hz
    · rw [← es]
      exact paired_of fun y hy => kp y (pm.mem_iff.mp hy)
section
variable {t : Tx} {K : PySem.W.Frag} {ρ : Pl} {H : Hp} {m : Mem} {n : Nat}
def rSrtD : List V → Hp → VK → Prop := fun xs H Q => ∃ (a : Addr) (kvs : List (Key × V)) (ks : List Int), xs = [.ref a] ∧ Rd H a (.dK kvs) ∧ kvs.map (·.1) = ks.map Sum.inl ∧ ks.length < 64 ∧
  ∀ (ys : List Int) (p : Addr), ys.Perm ks → ys.Pairwise (· ≤ ·) → H p = none → Q (.ref p) (upd H p (.lst (ys.map V.int)))
def r_sorted (K : PySem.W.Frag) : List V → Hp → VK → Prop := fun vs H Q => (rSortedI K vs H Q ∨ rSrtP K vs H Q) ∨ rSrtD vs H Q
theorem o_sorted {X : Cx} (hc : X.calm = true) : CallR X (.builtin "sorted") (r_sorted X.K) := CallR.or (CallR.or cr_sortedI cr_srtP) (call_sortedDI hc)
theorem keys_int : ∀ {kvs : List (NV.D × NV.D)} {ns : List Int} {ks : List (Key × V)}, mapO intOf (kvs.map (·.1)) = some ns → RepKv t K ρ H kvs ks → ks.map (·.1) = ns.map Sum.inl
  | [], ns, [], h, _ => by cases mapO_nil h; rfl
  | (k, d) :: r, ns, (q, v) :: s, h, ⟨h1, h2, h3, h4⟩ => by
    obtain ⟨y, ys, rfl, e1, e2⟩ := mapO_cons h
    rw [List.map_cons, List.map_cons, keys_int e2 h4]
    cases k <;> simp only [intOf] at e1 <;> try (cases e1; done)
    cases e1
    have := rep_int h1
    cases q with
    | inl i => simp only [kV] at this; cases this; rfl
    | inr z => simp only [kV] at this; cases this
  | [], _, _ :: _, _, h => h.elim
  | (_, _) :: _, _, [], _, h => h.elim
theorem isort_int {ns ns' : List Int} (pm : ns'.Perm ns) (so : ns'.Pairwise (· ≤ ·)) : ns' = isort (fun i j => decide (i < j)) ns := by
  refine perm_sorted (fun a b h1 h2 => Int.le_antisymm h1 h2) (pm.trans (isort_perm ns).symm) so (isort_sorted (le := fun a b : Int => a ≤ b) (fun a b h => ?_) (fun a b h => ?_) (fun a b c h1 h2 => Int.le_trans h1 h2) ns)
  · have := of_decide_eq_true h
    omega
  · have := of_decide_eq_false h
    omega
theorem pairs_of : ∀ {xs : List D} {ps : List (Int × Int)} {vs : List V}, mapO pairOf xs = some ps → Reps t K ρ H xs vs → Paired (Pr2 K H) vs ps
  | [], ps, [], h, _ => by
    cases mapO_nil h
    exact .nil
  | x :: xs, ps, v :: vs, h, r => by
    obtain ⟨y, ys, rfl, h1, h2⟩ := mapO_cons h
    simp only [Reps] at r
    refine .cons ?_ (pairs_of h2 r.2)
    unfold pairOf at h1
    split at h1
    · cases h1
      obtain ⟨a, us, e, sq, rs⟩ := rep_tup r.1
      obtain ⟨v1, v2, rfl, r1, r2⟩ := reps_two rs
      rw [rep_int r1, rep_int r2] at sq
      exact ⟨a, e, sq⟩
    · cases h1
  | [], _, _ :: _, _, r => by simp only [Reps] at r
  | _ :: _, _, [], _, r => by simp only [Reps] at r
theorem reps_pairs : ∀ {ps : List (Int × Int)} {vs : List V}, Paired (Pr2 K H) vs ps → Reps t K ρ H (ps.map fun p => .tup [.int p.1, .int p.2]) vs
  | _, _, .nil => by simp only [List.map_nil, Reps]
  | _, _, .cons (b := p) ⟨a, e, sq⟩ r => by
    simp only [List.map_cons, Reps, Rep]
    exact ⟨⟨a, _, e, sq, by simp only [Reps]; exact ⟨Rep.int, Rep.int, trivial⟩⟩, reps_pairs r⟩
theorem bels_pairs (ps : List (Int × Int)) : D.bels n (ps.map fun p => .tup [.int p.1, .int p.2]) := bels_iff.mpr fun x hx => by
  obtain ⟨p, _, rfl⟩ := List.mem_map.mp hx
  simp only [D.bel, D.bels]
  exact ⟨trivial, trivial, trivial⟩
theorem pk_sorted : Pk1 t K .sorted (fun v H Q => r_sorted K [v] H Q) := by
  intro W ρ H m x v Q rm rx bx h
  simp only [prim, p_sorted] at h
  cases ek : keysOf m x with
  | some ns =>
    simp only [ek] at h
    unfold keysOf at ek
    cases x <;> simp only at ek <;> try (cases ek; done)
    rename_i k
    cases g : m.get k with
    | none => simp only [g] at ek; cases ek
    | some o =>
      cases o <;> simp only [g] at ek <;> try (cases ek; done)
      rename_i kvs
      split at ek
      · rename_i hz
        obtain ⟨ks, q1, q2, q3, q4⟩ := get_dic rm g
        have hk := keys_int ek q2
        have hl : ns.length < 64 := by
          have e1 := congrArg List.length hk
          simp only [List.length_map] at e1
          rw [← e1, ← RepKv.length q2]
          exact hz
        refine .inr ⟨_, ks, ns, congrArg (fun z => [z]) (rep_loc rx), .inl q1, hk, hl, fun ys p pm so hp => ?_⟩
        rw [isort_int pm so]
        exact (RQ.newL h rm (Reps.ints _) (bels_ints _)).2 p hp
      · cases ek
  | none =>
  simp only [ek] at h
  cases e : lstOf m x with
  | none => simp only [e] at h; exact False.elim h
  | some xs =>
    simp only [e] at h
    obtain ⟨a, vs, rfl, sq, rs, bs⟩ := lstOf_ok rm e rx
    cases e2 : mapO intOf xs with
    | some ns =>
      simp only [e2] at h
      have ev := ints_of e2 rs
      subst ev
      refine .inl (.inl ⟨a, ns, rfl, sq, fun ns' p pm so hp => ?_⟩)
      have es : ns' = isort (fun i j => decide (i < j)) ns := by
        refine perm_sorted (fun a b h1 h2 => Int.le_antisymm h1 h2) (pm.trans (isort_perm ns).symm) so (isort_sorted (le := fun a b : Int => a ≤ b) (fun a b h => ?_) (fun a b h => ?_) (fun a b c h1 h2 => Int.le_trans h1 h2) ns)
        · have := of_decide_eq_true h
          omega
        · have := of_decide_eq_false h
          omega
      rw [es]
      exact (RQ.newL h rm (Reps.ints _) (bels_ints _)).2 p hp
    | none =>
      simp only [e2] at h
      cases e3 : mapO pairOf xs with
      | none => simp only [e3] at h; exact False.elim h
      | some ps =>
        simp only [e3] at h
        refine .inl (.inr ⟨a, vs, ps, rfl, sq, pairs_of e3 rs, fun ys p hy hp => ?_⟩)
        exact (RQ.newL h rm (reps_pairs hy) (bels_pairs _)).2 p hp
end
end NV

set_option Elab.async false
set_option linter.all false
set_option maxRecDepth 100000
set_option maxHeartbeats 4000000
/-! NvFn: what a def of the text promises, where nothing is being shown (no guard is up). -/
namespace NV
open PySem PySem.Spec PyProof.Rows L2

/-- a def keeps its promise, wherever there is room and nothing is being shown -/
structure FnG (P : Program) (w : World) (K : PySem.W.Frag) (mg : Str → Option Value) (base : Heap) (k : Nat) (f : Addr) (fd : FuncData) (ps : List Str) (sp : Sp) : Prop where
  len : ∀ vs H Q E, sp vs H Q E → vs.length = ps.length
  run : ∀ (A : Around) (outer : List Env) (s : Shared) (H : Hp) (args : Args) (us : List Value) (vs : List V) (Q : VK) (E : XK), Room k A → A.guards = some [] → Env0 P w K mg base A outer s H →
    BindsTo s fd args (ps.zip us) → Vals vs us → sp vs H Q E → codeAny (model P w) A (.call (.ref f) args) (CR (L2.CX P w) outer P w H s Q E) s
section
variable {X : Cx} {k : Nat} {f : Addr} {fd : FuncData} {ps : List Str} {sp : Sp} {W : WX}
theorem FnG.call {pins : List (Addr × Obj)} {σ : L2.St} {H : Hp} {s : Shared} {Q : VK} {us : List Value} {vs : List V} (F : FnG X.prog X.w X.K X.mg X.base k f fd ps sp) (hr : Room k X.A) (hg : X.A.guards = some [])
    (hb : Binds X.K fd ps []) (tk : Takes X W) (I : Inv X pins σ H s) (r : Vals vs us) (h : sp vs H Q (fun c d H' => W c d σ H')) : wpAny (model X.prog X.w) X.A (PySem.call (.ref f) us) (EP X pins σ Q) X.xe s := by
  have hl : us.length = ps.length := by rw [← r.length]; exact F.len _ _ _ _ h
  have hb' := hb s us I.kIn (by simpa using hl)
  rw [List.append_nil] at hb'
  refine wpAny_call (codeAny_mono (F.run X.A X.stack s H ⟨us, []⟩ us vs Q _ hr hg I.env0 hb' r h) fun res s' hq => ?_)
  cases res with
  | error e => exact tk e s' (XE.of_call I (fun c d H' z => z) hq)
  | ok fl =>
    cases fl with
    | ret u => exact I.after hq
    | next => exact False.elim hq
    | brk => exact False.elim hq
    | cont => exact False.elim hq
end
/-- a def of the text, by its body -/
theorem FnG.of {P : Program} {w : World} {K : PySem.W.Frag} {mg : Str → Option Value} {base : Heap} {k : Nat} {f : Addr} {name qual : Str} {params : Arguments} {body : List Stmt} {scope : Scope} {dV kV doc pm cdv ct oc : Value} {an od : Option Addr}
    {osl : Array (Option Value)} {N ps : List Str} {sp : Sp} (lk : K.lookup f = some ⟨oc, od, .func (PySem.W.fnOf name qual params body scope dV kV doc pm an cdv ct), osl⟩) (hcd : PySem.W.codeIn K cdv qual = true) (S : FnScope N ps scope)
    (len : ∀ vs H Q E, sp vs H Q E → vs.length = ps.length)
    (hbody : ∀ (A : Around) (outer : List Env) (s : Shared) (H : Hp) (vs : List V) (Q : VK) (E : XK), Room k (A.deeper (envOfC qual scope s.heap.objs.size f cdv)) → (A.deeper (envOfC qual scope s.heap.objs.size f cdv)).guards = some [] → sp vs H Q E →
      ∃ u, PSs (cxOf (L2.CX P w) P w K mg base N qual scope f cdv A outer s H E) body u ∧ u { nx := fun _ H' => Q .non H', rt := Q } (L2.start N vs) H) :
    FnG P w K mg base (k + 1) f (PySem.W.fnOf name qual params body scope dV kV doc pm an cdv ct) ps sp := by
  refine ⟨len, fun A outer s H args us vs Q E room hgu e0 hb r hsp => ?_⟩
  have hin : K.In s.heap := e0.mod.kin.keeps fun b o e => (e0.bs b o e).1
  have hli : s.heap.NoLimit := e0.mod.nolimit.keeps fun b o e => (e0.bs b o e).1
  have hkd : ∀ y ∈ ps.zip us, scope.names.lookup y.1 = some .local ∨ (scope.names.lookup y.1 = some .cell ∧ ((cellsFrom (s.heap.objs.size + 1) scope.names []).lookup y.1).isSome = true) := by
    rintro ⟨n, v⟩ hy
    exact (S.par n (List.of_mem_zip hy).1).elim .inl fun q => .inr ⟨q, PySem.W.cellsFrom_some _ _ _ (.inl q)⟩
  refine codeAny_call_function room.depth (hin _ _ lk) rfl S.co S.gen rfl (PySem.W.codeRec_of hin hcd) (hb _ _ _ _ (wpAny_newFunctionEnv_cells S.kind hkd fun env he s1 x => ?_))
  subst he
  refine ⟨hli.keeps x.toInCall.keep, codeAny_func ?_⟩
  obtain ⟨u, hu, hq⟩ := hbody A outer s H vs Q E (room.deeper _) hgu hsp
  have I : Inv (cxOf (L2.CX P w) P w K mg base N qual scope f cdv A outer s H E) [] (L2.start N vs) H s1 := inv_start S room.hd e0 (len _ _ _ _ hsp) r x
  refine wpAny_mono (hu.run [] s1 _ H _ I hq) (fun fl s' hs => ?_) fun e s' hs => hs
  cases fl with
  | ret u =>
    obtain ⟨v, σ', H', J, rv, q⟩ := hs
    exact ⟨v, H', J.os, J.bare, J.base, J.hok, rv, q⟩
  | next =>
    obtain ⟨σ', H', J, q⟩ := hs
    exact ⟨V.non, H', J.os, J.bare, J.base, J.hok, rfl, q⟩
  | brk =>
    obtain ⟨_, _, _, q⟩ := hs
    exact False.elim q
  | cont =>
    obtain ⟨_, _, _, q⟩ := hs
    exact False.elim q
end NV

set_option Elab.async false
set_option linter.all false
set_option maxRecDepth 100000
set_option maxHeartbeats 4000000
/-! NvLam: a lambda handed to a def of the text. -/
namespace NV
open PySem PySem.Spec PyProof.Rows L2

/-- the lambda at x, called at its taker's start -/
def Act (t : Tx) (P : Program) (w : World) (K : PySem.W.Frag) (mg : Str → Option Value) (base : Heap) (A : Around) (outer : List Env) (s : Shared) (H : Hp) (x : Addr) (th : Mem → Rs D) (ρ : Pl) (m : Mem) : Prop :=
  ∀ (Ng : List Str) (qg : Str) (sg : Scope) (g : Addr) (cdg : Value) (a : Str) (pn : List (Addr × Obj)) (xe : Value → Shared → Prop) (W : WX) (Eg : XK) (p1 p2 : Pos), Ng[0]? = some a → Vis sg a → (a == ("__debug__" : Str)) = false → (a == ("__classdict__" : Str)) = false →
    Takes ((cxOf (L2.CX P w) P w K mg base Ng qg sg g cdg A outer s H Eg).tr pn xe) W →
    PE ((cxOf (L2.CX P w) P w K mg base Ng qg sg g cdg A outer s H Eg).tr pn xe) (.Call (.Name a p1) [] [] p2) (fun σz Hz Q => σz[0]? = some (some (.ref x)) ∧ Hz = H ∧ RQ srD t K (WE W σz) ρ H m.len (th m) Q)
/-- a def that takes a lambda keeps its promise -/
structure LmG (t : Tx) (P : Program) (w : World) (K : PySem.W.Frag) (mg : Str → Option Value) (base : Heap) (k : Nat) (g : Addr) (fd : FuncData) (ps : List Str) (lamc : (Mem → Rs D) → Mem → Rs D) : Prop where
  one : ps.length = 1
  run : ∀ (A : Around) (outer : List Env) (s : Shared) (H : Hp) (args : Args) (x : Addr) (th : Mem → Rs D) (ρ : Pl) (m : Mem) (Q : VK) (E : XK), Room k A → A.guards = some [] → Env0 P w K mg base A outer s H → BindsTo s fd args (ps.zip [Value.ref x]) →
    RelM t K ρ H m → Act t P w K mg base A outer s H x th ρ m → RQ srD t K E ρ H m.len (lamc th m) Q → codeAny (model P w) A (.call (.ref g) args) (CR (L2.CX P w) outer P w H s Q E) s
/-- what a maker of lambdas knows -/
def LamD (t : Tx) (X : Cx) (fnm : List Str) (sp : Nat → Sp) (g : Addr) (lamc : (Mem → Rs D) → Mem → Rs D) : Prop :=
  ∃ (c P : Addr) (lv : Nat) (fd : FuncData) (ps : List Str), (∀ k x, fnm[k]? = some x → ∃ fd ps, Binds X.K fd ps [] ∧ FnG X.prog X.w X.K X.mg X.base lv (t.fa k) fd ps (sp k)) ∧ Room (lv + 3) X.A ∧ X.env.code = .ref c ∧ LamX.TabB X.base X.mg c P ∧ (P, X.env.qual ++ "<lambda>") ∈ t.tbs ∧ (∀ p ∈ t.tbs, p.1 = P → p.2 = X.env.qual ++ "<lambda>") ∧ Binds X.K fd ps [] ∧
    LmG t X.prog X.w X.K X.mg X.base lv g fd ps lamc
section
variable {X : Cx} {pins : List (Addr × Obj)} {σ : L2.St} {H : Hp} {s : Shared} {x c1 : Addr} {lp : Arguments} {lb : Expr} {lsc : Scope} {mo ct : Value} {k : Nat} {tb : XK → TE}
theorem act_pe (I : Inv X pins σ H s) (Ls : LamX.LamS X.env.scope lsc) (ox : s.heap.get? x = some (PySem.W.kla_obj "<lambda>" (X.env.qual ++ "<lambda>") lp lb lsc (cloFrom X.env.cells lsc.names []) mo c1 ct)) (x0 : H x = none) (x1 : x ∉ frs X.stack)
    (cc : H c1 = some (LamX.CodeO c1 (X.env.qual ++ "<lambda>"))) (bnd : bindArgs (PySem.W.kla_fn "<lambda>" (X.env.qual ++ "<lambda>") lp lb lsc (cloFrom X.env.cells lsc.names []) mo (.ref c1) ct) ⟨[], []⟩ = pure []) (room : Room (k + 3) X.A) (gu : X.A.guards = some [])
    (body : ∀ (A : Around) (outer : List Env) (z : Shared) (Hz : Hp) (E : XK), A.guards = some [] → Room (k + 1) (A.deeper (LamX.lamEnv X lsc z.heap.objs.size x c1)) → PE (LamX.lamCx X A outer z Hz E lsc x c1) lb (tb E))
    {Ng : List Str} {qg : Str} {sg : Scope} {g : Addr} {cdg : Value} {a : Str} {pn : List (Addr × Obj)} {xe : Value → Shared → Prop} {W : WX} {Eg : XK} {p1 p2 : Pos} (hN : Ng[0]? = some a) (hv : Vis sg a) (na : (a == ("__debug__" : Str)) = false) (nb : (a == ("__classdict__" : Str)) = false)
    (tk : Takes ((cxOf (L2.CX X.prog X.w) X.prog X.w X.K X.mg X.base Ng qg sg g cdg X.A X.stack s H Eg).tr pn xe) W) :
    PE ((cxOf (L2.CX X.prog X.w) X.prog X.w X.K X.mg X.base Ng qg sg g cdg X.A X.stack s H Eg).tr pn xe) (.Call (.Name a p1) [] [] p2) (fun σz Hz Q => σz[0]? = some (some (.ref x)) ∧ Hz = H ∧ tb (WE W σz) σ H Q) := by
  refine ⟨fun pinz z σz Hz Q Iz hq => ?_⟩
  obtain ⟨q1, rfl, q2⟩ := hq
  have rd := (pe_var (X := (cxOf (L2.CX X.prog X.w) X.prog X.w X.K X.mg X.base Ng qg sg g cdg X.A X.stack s Hz Eg).tr pn xe) (pos := p1) (i := 0) hN hv na nb).run pinz z σz Hz (fun v Hv => v = .ref x ∧ Hv = Hz) Iz ⟨.ref x, q1, rfl, rfl⟩
  refine wpAny_Call_Name_kw (thn rd fun u z1 hz1 => ?_)
  obtain ⟨v, Hv, Iv, rv, rfl, rfl⟩ := hz1
  have eu : u = Value.ref x := rv
  subst eu
  have oz := Iv.base.keep x _ ox x0 x1 (fun y => nomatch (show x ∈ ([] : List Addr) from y))
  have unz : Un (frs X.stack) [] Hv Hv s.heap z1.heap := Iv.base
  obtain ⟨⟨oc, cv, ck, hoc, hcd, hcv⟩, _⟩ := Iv.hok c1 _ cc
  have dz := room.deeper (envOfC qg sg s.heap.objs.size g cdg)
  have run : codeAny (model X.prog X.w) (X.A.deeper (envOfC qg sg s.heap.objs.size g cdg)) (.call (.ref x) ⟨[], []⟩) (CR (L2.CX X.prog X.w) (envOfC qg sg s.heap.objs.size g cdg :: X.stack) X.prog X.w Hv z1 Q (WE W σz)) z1 := by
    refine PySem.W.kla_callFunE dz.depth oz rfl Ls.co Ls.gen rfl ⟨c1, oc, cv, ck, rfl, hoc, hcd, hcv⟩ ?_
    rw [bnd]
    refine wpAny_pure (wpAny_newFunctionEnv (fun y hy => (Ls.own y hy).2) (fun y hy => absurd hy (by simp)) (fun h2 hns hsb => ⟨Iv.nolimit.fresh _ hsb, ?_⟩) Ls.kind)
    have kz : ∀ b o, z1.heap.get? b = some o → h2.get? b = some o := fun b o e => hsb.extBut b o (Nat.ne_of_lt (Heap.lt_size e)) (Heap.get?_push_of_some _ e)
    have J := LamX.lam_start2 (E := WE W σz) (f := x) (c' := c1) (tk := z1.toks + ([] : List (Str × Value)).length) I Ls Iv.env0 dz.hd unz hns kz
    have pb := body (X.A.deeper (envOfC qg sg s.heap.objs.size g cdg)) (envOfC qg sg s.heap.objs.size g cdg :: X.stack) z1 Hv (WE W σz) gu (dz.deeper _)
    refine PySem.W.kla_codeExpr (wpAny_mono (pb.run [] _ _ Hv Q J q2) (fun v2 z2 hq2 => ?_) fun e z2 hq2 => hq2)
    obtain ⟨w2, H2, J2, rv2, qq⟩ := hq2
    exact ⟨w2, H2, J2.os, J2.bare, J2.base, J2.hok, rv2, qq⟩
  refine PySem.W.callWith_F0 ⟨_, _, _, _, oz⟩ (wpAny_call (codeAny_mono run fun r z2 hr => ?_))
  cases r with
  | error e => exact tk e z2 (XE.of_call Iv (fun _ _ _ y => y) hr)
  | ok fl =>
    cases fl with
    | ret u2 => exact Iv.after hr
    | next => exact hr.elim
    | brk => exact hr.elim
    | cont => exact hr.elim
end
end NV

set_option Elab.async false
set_option linter.all false
set_option maxRecDepth 100000
set_option maxHeartbeats 4000000
/-! NvExp: what an expression of the text does, by the evaluator's words; each form alone. -/
namespace NV
open PySem PySem.Spec PyProof.Rows L2

/-- the names of a text's things, by their numbers -/
structure Nx where
  fnm : List Str
  gnm : List Str
  cnm : List Str
  fld : List Str
  err : List Nat

def visB (sc : Scope) (x : Str) : Bool := match sc.names.lookup x with
  | some .local => true
  | some .cell => true
  | some .free => true
  | _ => false
def glB (sc : Scope) (x : Str) : Bool := match sc.names.lookup x with
  | some .globalImplicit => true
  | _ => false
def nmB (x : Str) : Bool := !(x == ("__debug__" : Str)) && (!(x == ("__classdict__" : Str)) && !(x == ("" : Str)))
def biNames : List Str := ["len", "list", "tuple", "dict", "sum", "all", "any", "sorted", "abs", "int", "bool", "str", "repr", "max", "min", "isinstance", "set", "range", "zip", "enumerate"]

/-- a def's promise: the evaluator's call -/
def spF (t : Tx) (K : PySem.W.Frag) (g : List D → Mem → Rs D) : Sp := fun vs H Q E => ∃ ρ ds m, RelM t K ρ H m ∧ Reps t K ρ H ds vs ∧ D.bels m.len ds ∧ RQ srD t K E ρ H m.len (g ds m) Q
/-- what holds wherever a body of the text runs -/
structure Gd (t : Tx) (n : Nx) (C : Ct) (W : WX) (X : Cx) : Prop where
  N : X.N.Nodup
  calm : X.calm = true
  tk : Takes X W
  gu : X.A.guards = some []
  un : X.A.units + 65 < cLine
  bi : ∀ x ∈ biNames, X.mg x = none
  glo : ∀ k x, n.gnm[k]? = some x → ∃ v u, X.mg x = some u ∧ RelV v u ∧ (∀ ρ H, Rep t X.K ρ H (C.gl k) v) ∧ ∀ j, (C.gl k).bel j
  fns : ∀ k x, n.fnm[k]? = some x → (x == ("" : Str)) = false → X.mg x = some (.ref (t.fa k)) ∧ PySem.W.keepIn X.K (.ref (t.fa k)) = true
  fng : ∀ k x, n.fnm[k]? = some x → ∃ lv fd ps, Room (lv + 1) X.A ∧ Binds X.K fd ps [] ∧ FnG X.prog X.w X.K X.mg X.base lv (t.fa k) fd ps (spF t X.K (C.call k))
  atn : ∀ f y, n.fld[f]? = some y → t.fln f = y ∧ ∀ k, t.fln k = y → k = f
  fok : ∀ c f y, C.fok c f = true → n.fld[f]? = some y → Cls X.K (t.ca c) ∧ NoAttr X.K (t.ca c) y
  mth : ∀ c f k y, C.mth c f = some k → n.fld[f]? = some y → Cls X.K (t.ca c) ∧ Meth X.K (t.ca c) y (t.fa k) ∧ ∃ x, n.fnm[k]? = some x
  ini : ∀ c k y, C.ini c = some k → n.cnm[c]? = some y → Mk X.K (t.ca c) (t.fa k) ∧ X.mg y = some (.ref (t.ca c)) ∧ ∃ x, n.fnm[k]? = some x
  lam : ∀ k x, n.fnm[k]? = some x → (∀ th m, C.lamc k th m = .stuck) ∨ LamD t X n.fnm (fun j => spF t X.K (C.call j)) (t.fa k) (C.lamc k)

section
variable {t : Tx} {n : Nx} {C : Ct} {W : WX} {X : Cx}
theorem vis_of {sc : Scope} {x : Str} (h : visB sc x = true) : Vis sc x := by
  unfold visB at h
  split at h
  · exact .inl (by assumption)
  · exact .inr (.inl (by assumption))
  · exact .inr (.inr (by assumption))
  · cases h
theorem gl_of {x : Str} (h : glB X.env.scope x = true) : Gl X x := by
  unfold glB at h
  split at h
  · assumption
  · cases h
theorem nm_of {x : Str} (h : nmB x = true) : (x == ("__debug__" : Str)) = false ∧ (x == ("__classdict__" : Str)) = false := by
  unfold nmB at h
  simp only [Bool.and_eq_true, Bool.not_eq_true'] at h
  exact ⟨h.1, h.2.1⟩
theorem nm_ne {x : Str} (h : nmB x = true) : (x == ("" : Str)) = false := by
  unfold nmB at h
  simp only [Bool.and_eq_true, Bool.not_eq_true'] at h
  exact h.2.2

theorem Gd.call (G : Gd t n C W X) {k : Nat} {x : Str} (hk : n.fnm[k]? = some x) (pins : List (Addr × Obj)) (s : Shared) (σ : L2.St) (H : Hp) (us : List Value) (vs : List V) (Q : VK) (ρ : Pl) (ds : List D) (m : Mem) (I : Inv X pins σ H s) (r : Vals vs us) (rm : RelM t X.K ρ H m) (rps : Reps t X.K ρ H ds vs) (bls : D.bels m.len ds)
    (q : RQ srD t X.K (WE W σ) ρ H m.len (C.call k ds m) Q) : wpAny (model X.prog X.w) X.A (PySem.call (.ref (t.fa k)) us) (EP X pins σ Q) X.xe s := by
  obtain ⟨lv, fd, ps, h1, h2, h3⟩ := G.fng k x hk
  exact h3.call (h1.mono (by omega)) G.gu h2 G.tk I r ⟨ρ, ds, m, rm, rps, bls, q⟩

/-! ### names and constants -/
theorem getS_slot {K : PySem.W.Frag} {ρ : Pl} {H : Hp} {k i : Nat} {s : Sl} {σ : L2.St} {d : D} (rs : RelS t K ρ H k s σ) (h : getS s i = some d) : ∃ v, σ[i]? = some (some v) ∧ Rep t K ρ H d v ∧ d.bel k := by
  unfold getS at h
  cases e : s[i]? with
  | none => rw [e] at h; cases h
  | some o =>
    rw [e] at h
    exact rs.slot i d (by rw [e]; exact congrArg some h)
theorem s_var {i : Nat} {y : Str} {pos : Pos} (hN : X.N[i]? = some y) (hv : visB X.env.scope y = true) (hn : nmB y = true) : PE X (.Name y pos) (tE t X.K W (xVar i)) := by
  refine PE.imp (pe_var hN (vis_of hv) (nm_of hn).1 (nm_of hn).2) fun σ H Q h => ?_
  obtain ⟨ρ, s, m, rm, rs, q⟩ := h
  unfold xVar at q
  cases e : getS s i with
  | none => simp only [e] at q; exact False.elim q
  | some d =>
    simp only [e] at q
    obtain ⟨v, e2, rp, bl⟩ := getS_slot rs e
    exact ⟨v, e2, RQ.ok q rm rp bl (Nat.le_refl _)⟩
theorem s_c {d : D} {v : V} {e : Expr} (h : PE X e (tC v)) (rp : ∀ ρ H, Rep t X.K ρ H d v) (bl : ∀ j, d.bel j) : PE X e (tE t X.K W (xC d)) :=
  PE.imp h fun σ H Q ⟨ρ, s, m, rm, rs, q⟩ => RQ.ok q rm (rp ρ H) (bl _) (Nat.le_refl _)
theorem s_glo (G : Gd t n C W X) {k : Nat} {y : Str} {pos : Pos} (hk : n.gnm[k]? = some y) (hg : glB X.env.scope y = true) (hn : nmB y = true) : PE X (.Name y pos) (tE t X.K W (xC (C.gl k))) := by
  obtain ⟨v, u, h1, h2, h3, h4⟩ := G.glo k y hk
  exact s_c (pe_glob (gl_of hg) h1 h2 (nm_of hn).1) h3 h4
theorem s_fnv (G : Gd t n C W X) {k : Nat} {y : Str} {pos : Pos} (hk : n.fnm[k]? = some y) (hg : glB X.env.scope y = true) (hn : nmB y = true) : PE X (.Name y pos) (tE t X.K W (xC (.fn k))) :=
  s_c (pe_glob (v := .ref (t.fa k)) (gl_of hg) (G.fns k y hk (nm_ne hn)).1 rfl (nm_of hn).1) (fun _ _ => by simp only [Rep]) fun _ => by simp only [D.bel]

/-! ### one, two, three arguments -/
theorem tX_run {α β γ δ : Type} {S : Srt α β} {S2 : Srt γ δ} {x : Sl → Mem → Rs α} {f : α → Mem → Rs γ} {σ : L2.St} {ρ : Pl} {H : Hp} {s : Sl} {m : Mem} {Q : δ → Hp → Prop} {Q1 : β → Hp → Prop} (rm : RelM t X.K ρ H m) (rs : RelS t X.K ρ H m.len s σ)
    (q : RQ S2 t X.K (WE W σ) ρ H m.len ((x s m).bind f) Q)
    (k : ∀ d m1 ρ1 H1 v, x s m = .ok d m1 → Ext ρ H m.len ρ1 H1 m1.len → RelM t X.K ρ1 H1 m1 → RelS t X.K ρ1 H1 m1.len s σ → S.rp t X.K ρ1 H1 d v → S.bl m1.len d → m.len ≤ m1.len → RQ S2 t X.K (WE W σ) ρ1 H1 m1.len (f d m1) Q → Q1 v H1) : tX S t X.K W x σ H Q1 :=
  ⟨ρ, s, m, rm, rs, RQ.bind q fun d m1 ρ1 H1 v e ex rm1 rp bl hl q1 => k d m1 ρ1 H1 v e ex rm1 (rs.ext ex hl) rp bl hl q1⟩
theorem bind_assoc {α β γ : Type} (r : Rs α) (f : α → Mem → Rs β) (g : β → Mem → Rs γ) : (r.bind f).bind g = r.bind fun a m => (f a m).bind g := by cases r <;> rfl
theorem xPr1 (p : Pr) (a : Ex) (s : Sl) (m : Mem) : xPr p (xCons a xNil) s m = (a s m).bind fun d m1 => prim p [d] m1 := by
  unfold xPr xCons xNil
  rw [bind_assoc]
  rfl
theorem xPr2 (p : Pr) (a b : Ex) (s : Sl) (m : Mem) : xPr p (xCons a (xCons b xNil)) s m = (a s m).bind fun d m1 => (b s m1).bind fun e m2 => prim p [d, e] m2 := by
  unfold xPr xCons xNil
  rw [bind_assoc]
  congr 1
  funext d m1
  rw [bind_assoc, bind_assoc]
  rfl
theorem xPr3 (p : Pr) (a b c : Ex) (s : Sl) (m : Mem) : xPr p (xCons a (xCons b (xCons c xNil))) s m = (a s m).bind fun d m1 => (b s m1).bind fun e m2 => (c s m2).bind fun f m3 => prim p [d, e, f] m3 := by
  unfold xPr xCons xNil
  rw [bind_assoc]
  congr 1
  funext d m1
  rw [bind_assoc, bind_assoc]
  congr 1
  funext e m2
  rw [bind_assoc, bind_assoc]
  congr 1
theorem imp1 {p : Pr} {a : Ex} {r : V → Hp → VK → Prop} (pk : Pk1 t X.K p r) {σ : L2.St} {H : Hp} {Q : VK} (h : tE t X.K W (xPr p (xCons a xNil)) σ H Q) : tE t X.K W a σ H fun v H1 => r v H1 Q := by
  obtain ⟨ρ, s, m, rm, rs, q⟩ := h
  rw [xPr1] at q
  exact tX_run rm rs q fun d m1 ρ1 H1 v _ _ rm1 _ rp bl _ q1 => pk _ _ _ _ _ _ _ rm1 rp bl q1
theorem imp2 {p : Pr} {a b : Ex} {r : R2} (pk : Pk2 t X.K p r) {σ : L2.St} {H : Hp} {Q : VK} (h : tE t X.K W (xPr p (xCons a (xCons b xNil))) σ H Q) : tE t X.K W a σ H fun v H1 => tE t X.K W b σ H1 fun u H2 => r v u H2 Q := by
  obtain ⟨ρ, s, m, rm, rs, q⟩ := h
  rw [xPr2] at q
  exact tX_run rm rs q fun d m1 ρ1 H1 v _ _ rm1 rs1 rp bl _ q1 => tX_run rm1 rs1 q1 fun e m2 ρ2 H2 u _ ex rm2 _ rp2 bl2 hl q2 =>
    pk _ _ _ _ _ _ _ _ _ rm2 (Rep.ext ex d v bl rp) rp2 (D.bel_le hl d bl) bl2 q2

/-! ### operators -/
def binP : Operator → Option Pr
  | .Add => some .add
  | .Sub => some .sub
  | .Mult => some .mul
  | .FloorDiv => some .fdiv
  | .Mod => some .mod
  | .Pow => some .pow
  | _ => none
theorem bin_rule {op : Operator} {p : Pr} (h : binP op = some p) : ∃ r, OpR X (binaryOp op) r ∧ Pk2 t X.K p r := by
  cases op <;> cases h
  · exact ⟨_, o_add, pk_add⟩
  · exact ⟨_, op_sub, pk_sub⟩
  · exact ⟨_, o_mul, pk_mul⟩
  · exact ⟨_, op_mod, pk_mod⟩
  · exact ⟨_, op_pow, pk_pow⟩
  · exact ⟨_, op_fdiv, pk_fdiv⟩
theorem s_bin {op : Operator} {p : Pr} {a b : Expr} {xa xb : Ex} {pos : Pos} (h : binP op = some p) (ha : PE X a (tE t X.K W xa)) (hb : PE X b (tE t X.K W xb)) : PE X (.BinOp a op b pos) (tE t X.K W (xPr p (xCons xa (xCons xb xNil)))) := by
  obtain ⟨r, o, k⟩ := bin_rule (t := t) (X := X) h
  exact PE.imp (pe_op o ha hb) fun σ H Q q => imp2 k q
theorem s_neg {a : Expr} {xa : Ex} {pos : Pos} (ha : PE X a (tE t X.K W xa)) : PE X (.UnaryOp .USub a pos) (tE t X.K W (xPr .neg (xCons xa xNil))) :=
  PE.imp (pe_un un_neg ha) fun σ H Q q => imp1 pk_neg q

/-! ### comparisons -/
def isNoneC : Expr → Bool
  | .Constant .none _ _ => true
  | _ => false
def isBlC : Expr → Bool
  | .Constant (.bool _) _ _ => true
  | _ => false
def cmpP (op : CmpOp) (b : Expr) : Option Pr := match op with
  | .Eq => some .eq
  | .NotEq => some .ne
  | .Lt => some .lt
  | .LtE => some .le
  | .Gt => some .gt
  | .GtE => some .ge
  | .In => some .isIn
  | .NotIn => some .notIn
  | .Is => if isNoneC b then some .isN else if isBlC b then some .isB else none
  | .IsNot => if isNoneC b then some .notN else if isBlC b then some .notB else none
theorem cmp_rule (G : Gd t n C W X) {op : CmpOp} {b : Expr} {p : Pr} (h : cmpP op b = some p) : ∃ r, OpR X (compareOp op) r ∧ Pk2 t X.K p r := by
  cases op <;> simp only [cmpP] at h
  · cases h; exact ⟨_, o_eq (by have := G.un; omega), pk_eq⟩
  · cases h; exact ⟨_, o_ne (by have := G.un; omega), pk_ne⟩
  · cases h; exact ⟨_, op_lt, pk_lt⟩
  · cases h; exact ⟨_, op_le, pk_le⟩
  · cases h; exact ⟨_, op_gt, pk_gt⟩
  · cases h; exact ⟨_, op_ge, pk_ge⟩
  · split at h
    · cases h; exact ⟨_, op_isN, pk_isN⟩
    · split at h
      · cases h; exact ⟨_, op_isBl, pk_isB⟩
      · cases h
  · split at h
    · cases h; exact ⟨_, op_notN, pk_notN⟩
    · split at h
      · cases h; exact ⟨_, op_notBl, pk_notB⟩
      · cases h
  · cases h; exact ⟨_, o_in G.un, pk_in⟩
  · cases h; exact ⟨_, o_notIn G.un, pk_notIn⟩
theorem s_cmp (G : Gd t n C W X) {op : CmpOp} {p : Pr} {a b : Expr} {xa xb : Ex} {pos : Pos} (h : cmpP op b = some p) (hm : behindInMarks op b = false) (ha : PE X a (tE t X.K W xa)) (hb : PE X b (tE t X.K W xb)) :
    PE X (.Compare a [op] [b] pos) (tE t X.K W (xPr p (xCons xa (xCons xb xNil)))) := by
  obtain ⟨r, o, k⟩ := cmp_rule G h
  exact PE.imp (pe_cmpR o ha hb hm) fun σ H Q q => imp2 k q
theorem cmpRes {p : Pr} (hp : p = .eq ∨ p = .ne ∨ p = .lt ∨ p = .le ∨ p = .gt ∨ p = .ge ∨ p = .isIn ∨ p = .notIn ∨ p = .isN ∨ p = .notN ∨ p = .isB ∨ p = .notB) {ds : List D} {m m' : Mem} {d : D} (h : prim p ds m = .ok d m') : ∃ b, d = .bl b := by
  have kB : ∀ (o : Option Bool) (ng : Bool), okB o m ng = .ok d m' → ∃ b, d = .bl b := fun o ng e => by
    cases o with
    | none => cases e
    | some b => cases e; exact ⟨_, rfl⟩
  rcases hp with rfl | rfl | rfl | rfl | rfl | rfl | rfl | rfl | rfl | rfl | rfl | rfl
  · simp only [prim] at h; unfold p_eq at h; split at h <;> first | exact kB _ _ h | (cases h; done) | (cases h; exact ⟨_, rfl⟩) | (split at h <;> first | exact kB _ _ h | (cases h; exact ⟨_, rfl⟩))
  · simp only [prim] at h; unfold p_ne at h; split at h <;> first | exact kB _ _ h | (cases h; done) | (cases h; exact ⟨_, rfl⟩) | (split at h <;> first | exact kB _ _ h | (cases h; exact ⟨_, rfl⟩))
  · simp only [prim] at h; unfold p_lt at h; split at h <;> first | exact kB _ _ h | (cases h; done) | (cases h; exact ⟨_, rfl⟩)
  · simp only [prim] at h; unfold p_le at h; split at h <;> first | exact kB _ _ h | (cases h; done) | (cases h; exact ⟨_, rfl⟩)
  · simp only [prim] at h; unfold p_gt at h; split at h <;> first | exact kB _ _ h | (cases h; done) | (cases h; exact ⟨_, rfl⟩)
  · simp only [prim] at h; unfold p_ge at h; split at h <;> first | exact kB _ _ h | (cases h; done) | (cases h; exact ⟨_, rfl⟩)
  · simp only [prim] at h; unfold p_isIn at h; split at h <;> first | exact kB _ _ h | (cases h; done) | (cases h; exact ⟨_, rfl⟩)
  · simp only [prim] at h; unfold p_notIn at h; split at h <;> first | exact kB _ _ h | (cases h; done) | (cases h; exact ⟨_, rfl⟩)
  · simp only [prim] at h; unfold p_isN at h; split at h
    · split at h <;> cases h <;> exact ⟨_, rfl⟩
    · cases h
  · simp only [prim] at h; unfold p_notN at h; split at h
    · split at h <;> cases h <;> exact ⟨_, rfl⟩
    · cases h
  · simp only [prim] at h; unfold p_isB at h; split at h <;> first | exact kB _ _ h | (cases h; done) | (cases h; exact ⟨_, rfl⟩)
  · simp only [prim] at h; unfold p_notB at h; split at h <;> first | exact kB _ _ h | (cases h; done) | (cases h; exact ⟨_, rfl⟩)
theorem cmpP_is {op : CmpOp} {b : Expr} {p : Pr} (h : cmpP op b = some p) : p = .eq ∨ p = .ne ∨ p = .lt ∨ p = .le ∨ p = .gt ∨ p = .ge ∨ p = .isIn ∨ p = .notIn ∨ p = .isN ∨ p = .notN ∨ p = .isB ∨ p = .notB := by
  cases op <;> simp only [cmpP] at h
  all_goals first
    | (cases h; simp)
    | (split at h
       · cases h; simp
       · split at h
         · cases h; simp
         · cases h)

/-! ### tests -/
theorem truthR_bl {b : Bool} {m : Mem} : truthR (.bl b) m = .ok b m := rfl
/-- a value known to be a truth, as a test -/
theorem tru_bl {ρ : Pl} {H : Hp} {k : Nat} {Wx : XK} {r : Rs D} {f : D → Mem → Rs Bool} {Q : Bool → Hp → Prop} (hb : ∀ d m', r = .ok d m' → ∃ b, d = .bl b ∧ f d m' = .ok b m') (q : RQ srB t X.K Wx ρ H k (r.bind f) Q) : RQ srD t X.K Wx ρ H k r fun x H1 => ∃ c, x = .bl c ∧ Q c H1 := by
  cases r with
  | ok d m' =>
    obtain ⟨b, rfl, e⟩ := hb d m' rfl
    have q' : RQ srB t X.K Wx ρ H k (f (.bl b) m') Q := q
    rw [e] at q'
    exact fun ρ' H' v ex rm rp bl hl => ⟨b, rep_bl (t := t) (K := X.K) (ρ := ρ') (H := H') rp, q' ρ' H' b ex rm rfl trivial hl⟩
  | exc c fs m' => exact q
  | stuck => exact q
/-- .. with a truth's own value asked for -/
theorem bol_bl {ρ : Pl} {H : Hp} {k : Nat} {Wx : XK} {r : Rs D} {Q : Bool → Hp → Prop} (q : RQ srB t X.K Wx ρ H k (r.bind boolR) Q) : RQ srD t X.K Wx ρ H k r fun x H1 => ∃ c, x = .bl c ∧ Q c H1 := by
  cases r with
  | ok d m' =>
    have q' : RQ srB t X.K Wx ρ H k (boolR d m') Q := q
    cases d <;> try exact False.elim q'
    exact fun ρ' H' v ex rm rp bl hl => ⟨_, rep_bl (t := t) (K := X.K) (ρ := ρ') (H := H') rp, q' ρ' H' _ ex rm rfl trivial hl⟩
  | exc c fs m' => exact q
  | stuck => exact q
theorem s_tcmp (G : Gd t n C W X) {op : CmpOp} {p : Pr} {a b : Expr} {xa xb : Ex} {pos : Pos} (h : cmpP op b = some p) (hm : behindInMarks op b = false) (ha : PE X a (tE t X.K W xa)) (hb : PE X b (tE t X.K W xb)) :
    PT X (.Compare a [op] [b] pos) (tT t X.K W (xTru (xPr p (xCons xa (xCons xb xNil))))) := by
  obtain ⟨r, o, k⟩ := cmp_rule G h
  refine PT.imp (pt_cmpR o ha hb hm) fun σ H Q q => ?_
  obtain ⟨ρ, s, m, rm, rs, q⟩ := q
  unfold xTru at q
  refine imp2 k ⟨ρ, s, m, rm, rs, tru_bl (fun d m' e => ?_) q⟩
  rw [xPr2] at e
  cases e1 : xa s m with
  | ok d1 m1 =>
    rw [e1] at e
    cases e2 : xb s m1 with
    | ok d2 m2 =>
      have e' : prim p [d1, d2] m2 = .ok d m' := by simpa only [Rs.bind, e2] using e
      obtain ⟨c, rfl⟩ := cmpRes (cmpP_is h) e'
      exact ⟨c, rfl, rfl⟩
    | exc c fs m2 => simp only [Rs.bind, e2] at e; cases e
    | stuck => simp only [Rs.bind, e2] at e; cases e
  | exc c fs m1 => simp only [Rs.bind, e1] at e; cases e
  | stuck => simp only [Rs.bind, e1] at e; cases e
/-- forms whose test is the truth of the value -/
def plainT : Expr → Bool
  | .UnaryOp _ _ _ => false
  | .BoolOp _ _ _ => false
  | .IfExp _ _ _ _ => false
  | .Compare _ _ _ _ => false
  | _ => true
theorem plainT_of {e : Expr} (h : plainT e = true) (env : Env) : ∀ whole, isTrue e env whole = (do let v ← whole; standAt e.pos; holding [v] (truthy v)) := by
  intro whole
  cases e <;> first | rfl | (cases h)
theorem truV_of {ρ : Pl} {H : Hp} {m : Mem} {d : D} {v : V} {b : Bool} (rm : RelM t X.K ρ H m) (rp : Rep t X.K ρ H d v) (h : truthD m d = some b) : TruV X.K v H b := by
  cases d <;> simp only [truthD] at h
  · cases h; rw [rep_non rp]; rfl
  · cases h; rw [rep_bl rp]; rfl
  · cases h; rw [rep_int rp]; rfl
  · split at h
    · rename_i hz
      cases h
      rw [rep_str rp]
      exact ⟨hz, rfl⟩
    · cases h
  · rename_i xs
    obtain ⟨a, vs, e, sq, rps⟩ := rep_tup rp
    cases h
    have hl := rps.length
    rw [e]
    have hv : (!xs.isEmpty) = !vs.isEmpty := by cases xs <;> cases vs <;> first | rfl | cases hl
    rw [hv]
    exact .inr (.inl ⟨vs, sq, rfl⟩)
  · rename_i k
    rw [rep_loc rp]
    cases g : m.get k with
    | none => simp only [g] at h; cases h
    | some o =>
      cases o with
      | lst xs =>
        simp only [g] at h
        cases h
        obtain ⟨vs, q1, q2, q3⟩ := get_lst rm g
        have hl := q2.length
        have hv : (!xs.isEmpty) = !vs.isEmpty := by cases xs <;> cases vs <;> first | rfl | cases hl
        rw [hv]
        exact .inl ⟨vs, .inl (.inl q1), rfl⟩
      | dic kvs =>
        simp only [g] at h
        cases h
        obtain ⟨ks, q1, q2, q3, q4⟩ := get_dic rm g
        have hl := q2.length
        have hv : (!kvs.isEmpty) = !ks.isEmpty := by cases kvs <;> cases ks <;> first | rfl | cases hl
        rw [hv]
        exact .inr (.inr ⟨ks, q1, rfl⟩)
      | ins c fs => simp only [g] at h; cases h
  · cases h
  · cases h
  · cases h
  · cases h
theorem s_tval {e : Expr} {x : Ex} (he : PE X e (tE t X.K W x)) (hp : plainT e = true) : PT X e (tT t X.K W (xTru x)) := by
  refine PT.imp (pt_truth he (plainT_of hp _)) fun σ H Q q => ?_
  obtain ⟨ρ, s, m, rm, rs, q⟩ := q
  refine ⟨ρ, s, m, rm, rs, ?_⟩
  refine RQ.bind q fun d m1 ρ1 H1 v _ _ rm1 rp _ _ q1 => ?_
  unfold truthR at q1
  cases e1 : truthD m1 d with
  | none => simp only [e1] at q1; exact False.elim q1
  | some b =>
    simp only [e1] at q1
    exact ⟨b, truV_of rm1 rp e1, RQ.ok q1 rm1 rfl trivial (Nat.le_refl _)⟩
theorem s_tnot {a : Expr} {x : ExB} {pos : Pos} (ha : PT X a (tT t X.K W x)) : PT X (.UnaryOp .Not a pos) (tT t X.K W (xNot x)) := by
  refine PT.imp (pt_not ha) fun σ H Q q => ?_
  obtain ⟨ρ, s, m, rm, rs, q⟩ := q
  refine ⟨ρ, s, m, rm, rs, RQ.bind q fun d m1 ρ1 H1 v _ _ rm1 rp _ _ q1 => ?_⟩
  have e : v = d := rp
  rw [e]
  exact RQ.ok q1 rm1 rfl trivial (Nat.le_refl _)
theorem s_and1 {a : Expr} {x : ExB} {pos : Pos} (ha : PT X a (tT t X.K W x)) : PW X (.BoolOp .And [a] pos) (tT t X.K W (xAnd x (xCB true))) := by
  refine PW.imp (pw_and1 ha) fun σ H Q q => ?_
  obtain ⟨ρ, s, m, rm, rs, q⟩ := q
  refine ⟨ρ, s, m, rm, rs, RQ.bind q fun d m1 ρ1 H1 v _ _ rm1 rp _ _ q1 => ?_⟩
  have e : v = d := rp
  rw [e]
  cases d <;> exact RQ.ok q1 rm1 rfl trivial (Nat.le_refl _)
theorem s_or1 {a : Expr} {x : ExB} {pos : Pos} (ha : PT X a (tT t X.K W x)) : PW X (.BoolOp .Or [a] pos) (tT t X.K W (xOr x (xCB false))) := by
  refine PW.imp (pw_or1 ha) fun σ H Q q => ?_
  obtain ⟨ρ, s, m, rm, rs, q⟩ := q
  refine ⟨ρ, s, m, rm, rs, RQ.bind q fun d m1 ρ1 H1 v _ _ rm1 rp _ _ q1 => ?_⟩
  have e : v = d := rp
  rw [e]
  cases d <;> exact RQ.ok q1 rm1 rfl trivial (Nat.le_refl _)
theorem s_and {a b : Expr} {r : List Expr} {x y : ExB} {pos : Pos} (ha : PT X a (tT t X.K W x)) (hb : PW X (.BoolOp .And (b :: r) pos) (tT t X.K W y)) : PW X (.BoolOp .And (a :: b :: r) pos) (tT t X.K W (xAnd x y)) := by
  refine PW.imp (pw_and ha hb) fun σ H Q q => ?_
  obtain ⟨ρ, s, m, rm, rs, q⟩ := q
  refine tX_run rm rs q fun d m1 ρ1 H1 v _ _ rm1 rs1 rp _ _ q1 => ?_
  have e : v = d := rp
  rw [e]
  cases d with
  | true => exact (if_pos rfl).mpr ⟨ρ1, s, m1, rm1, rs1, q1⟩
  | false => exact (if_neg Bool.false_ne_true).mpr (RQ.ok q1 rm1 rfl trivial (Nat.le_refl _))
theorem s_or {a b : Expr} {r : List Expr} {x y : ExB} {pos : Pos} (ha : PT X a (tT t X.K W x)) (hb : PW X (.BoolOp .Or (b :: r) pos) (tT t X.K W y)) : PW X (.BoolOp .Or (a :: b :: r) pos) (tT t X.K W (xOr x y)) := by
  refine PW.imp (pw_or ha hb) fun σ H Q q => ?_
  obtain ⟨ρ, s, m, rm, rs, q⟩ := q
  refine tX_run rm rs q fun d m1 ρ1 H1 v _ _ rm1 rs1 rp _ _ q1 => ?_
  have e : v = d := rp
  rw [e]
  cases d with
  | true => exact (if_pos rfl).mpr (RQ.ok q1 rm1 rfl trivial (Nat.le_refl _))
  | false => exact (if_neg Bool.false_ne_true).mpr ⟨ρ1, s, m1, rm1, rs1, q1⟩
end
end NV

set_option Elab.async false
set_option linter.all false
set_option maxRecDepth 100000
set_option maxHeartbeats 4000000
/-! NvExp2: values that are truths, chains, displays, slices, built-in functions, methods of lists and dicts. -/
namespace NV
open PySem PySem.Spec PyProof.Rows L2
section
variable {t : Tx} {n : Nx} {C : Ct} {W : WX} {X : Cx}

/-! ### truths as values -/
theorem RQ.okB {ρ : Pl} {H : Hp} {Wx : XK} {b : Bool} {m : Mem} {Q : Bool → Hp → Prop} (q : RQ srB t X.K Wx ρ H m.len (.ok b m) Q) (rm : RelM t X.K ρ H m) : Q b H := RQ.ok (S := srB) (v := b) q rm rfl trivial (Nat.le_refl _)
theorem RQ.ofT {ρ : Pl} {H : Hp} {k : Nat} {Wx : XK} {r : Rs Bool} {Q : VK} (q : RQ srD t X.K Wx ρ H k (r.bind okBl) Q) : RQ srB t X.K Wx ρ H k r fun c H1 => Q (.bl c) H1 :=
  RQ.bind q fun d m1 ρ1 H1 v _ _ rm1 rp _ _ q1 => by
    have e : v = d := rp
    rw [e]
    exact RQ.ok q1 rm1 (show Rep t X.K ρ1 H1 (.bl d) (.bl d) from Rep.bl) (show D.bel m1.len (.bl d) from bel_bl) (Nat.le_refl _)
theorem RQ.toT {ρ : Pl} {H : Hp} {k : Nat} {Wx : XK} {r : Rs Bool} {Q : VK} (q : RQ srB t X.K Wx ρ H k r fun c H1 => Q (.bl c) H1) : RQ srD t X.K Wx ρ H k (r.bind okBl) Q := by
  cases r with
  | ok b m' =>
    exact fun ρ' H' v ex rm rp bl hl => by
      have e : v = .bl b := rep_bl (t := t) (K := X.K) (ρ := ρ') (H := H') rp
      rw [e]
      exact q ρ' H' b ex rm rfl trivial hl
  | exc c fs m' => exact q
  | stuck => exact q
/-- a truth's reading as a value -/
theorem tV_iff {x : ExB} {σ : L2.St} {H : Hp} {Q : VK} : tE t X.K W (xOfT x) σ H Q ↔ tT t X.K W x σ H fun c H1 => Q (.bl c) H1 :=
  ⟨fun ⟨ρ, s, m, rm, rs, q⟩ => ⟨ρ, s, m, rm, rs, RQ.ofT q⟩, fun ⟨ρ, s, m, rm, rs, q⟩ => ⟨ρ, s, m, rm, rs, RQ.toT q⟩⟩
theorem s_vval {e : Expr} {x : Ex} (he : PE X e (tE t X.K W x)) : PE X e (tE t X.K W (xOfT (xBol x))) := by
  refine PE.imp he fun σ H Q q => ?_
  obtain ⟨ρ, s, m, rm, rs, q⟩ := tV_iff.mp q
  refine ⟨ρ, s, m, rm, rs, ?_⟩
  have q2 := bol_bl (t := t) (X := X) q
  cases e1 : x s m with
  | ok d m' =>
    rw [e1] at q2
    exact fun ρ' H' v ex rm' rp bl hl => by
      obtain ⟨c, e2, q3⟩ := q2 ρ' H' v ex rm' rp bl hl
      rw [e2]
      exact q3
  | exc c fs m' => rw [e1] at q2; exact q2
  | stuck => rw [e1] at q2; exact q2
theorem s_vnot {a : Expr} {x : ExB} {pos : Pos} (ha : PE X a (tE t X.K W (xOfT x))) : PE X (.UnaryOp .Not a pos) (tE t X.K W (xOfT (xNot x))) := by
  refine PE.imp (pe_not ha) fun σ H Q q => ?_
  obtain ⟨ρ, s, m, rm, rs, q⟩ := tV_iff.mp q
  refine tV_iff.mpr ⟨ρ, s, m, rm, rs, RQ.bind q fun d m1 ρ1 H1 v _ _ rm1 rp _ _ q1 => ?_⟩
  have e : v = d := rp
  rw [e]
  exact ⟨d, rfl, RQ.okB q1 rm1⟩
theorem s_vand1 {a : Expr} {x : ExB} {pos : Pos} (ha : PE X a (tE t X.K W (xOfT x))) : PE X (.BoolOp .And [a] pos) (tE t X.K W (xOfT (xAnd x (xCB true)))) := by
  refine PE.imp (pe_one ha) fun σ H Q q => ?_
  obtain ⟨ρ, s, m, rm, rs, q⟩ := tV_iff.mp q
  refine tV_iff.mpr ⟨ρ, s, m, rm, rs, RQ.bind q fun d m1 ρ1 H1 v _ _ rm1 rp _ _ q1 => ?_⟩
  have e : v = d := rp
  rw [e]
  cases d <;> exact RQ.okB q1 rm1
theorem s_vor1 {a : Expr} {x : ExB} {pos : Pos} (ha : PE X a (tE t X.K W (xOfT x))) : PE X (.BoolOp .Or [a] pos) (tE t X.K W (xOfT (xOr x (xCB false)))) := by
  refine PE.imp (pe_one ha) fun σ H Q q => ?_
  obtain ⟨ρ, s, m, rm, rs, q⟩ := tV_iff.mp q
  refine tV_iff.mpr ⟨ρ, s, m, rm, rs, RQ.bind q fun d m1 ρ1 H1 v _ _ rm1 rp _ _ q1 => ?_⟩
  have e : v = d := rp
  rw [e]
  cases d <;> exact RQ.okB q1 rm1
theorem s_vand {a b : Expr} {r : List Expr} {x y : ExB} {pos : Pos} (ha : PE X a (tE t X.K W (xOfT x))) (hb : PE X (.BoolOp .And (b :: r) pos) (tE t X.K W (xOfT y))) : PE X (.BoolOp .And (a :: b :: r) pos) (tE t X.K W (xOfT (xAnd x y))) := by
  refine PE.imp (pe_and ha hb) fun σ H Q q => ?_
  obtain ⟨ρ, s, m, rm, rs, q⟩ := tV_iff.mp q
  refine tV_iff.mpr (tX_run rm rs q fun d m1 ρ1 H1 v _ _ rm1 rs1 rp _ _ q1 => ?_)
  have e : v = d := rp
  rw [e]
  refine ⟨d, rfl, ?_⟩
  cases d with
  | true => exact (if_pos rfl).mpr (tV_iff.mpr ⟨ρ1, s, m1, rm1, rs1, q1⟩)
  | false => exact (if_neg Bool.false_ne_true).mpr (RQ.okB (Q := fun c H1 => Q (.bl c) H1) q1 rm1)
theorem s_vor {a b : Expr} {r : List Expr} {x y : ExB} {pos : Pos} (ha : PE X a (tE t X.K W (xOfT x))) (hb : PE X (.BoolOp .Or (b :: r) pos) (tE t X.K W (xOfT y))) : PE X (.BoolOp .Or (a :: b :: r) pos) (tE t X.K W (xOfT (xOr x y))) := by
  refine PE.imp (pe_or ha hb) fun σ H Q q => ?_
  obtain ⟨ρ, s, m, rm, rs, q⟩ := tV_iff.mp q
  refine tV_iff.mpr (tX_run rm rs q fun d m1 ρ1 H1 v _ _ rm1 rs1 rp _ _ q1 => ?_)
  have e : v = d := rp
  rw [e]
  refine ⟨d, rfl, ?_⟩
  cases d with
  | true => exact (if_pos rfl).mpr (RQ.okB (Q := fun c H1 => Q (.bl c) H1) q1 rm1)
  | false => exact (if_neg Bool.false_ne_true).mpr (tV_iff.mpr ⟨ρ1, s, m1, rm1, rs1, q1⟩)
theorem s_ite {c a b : Expr} {xc : ExB} {xa xb : Ex} {pos : Pos} (hc : PT X c (tT t X.K W xc)) (ha : PE X a (tE t X.K W xa)) (hb : PE X b (tE t X.K W xb)) : PE X (.IfExp c a b pos) (tE t X.K W (xIte xc xa xb)) := by
  refine PE.imp (pe_ifExp hc ha hb) fun σ H Q q => ?_
  obtain ⟨ρ, s, m, rm, rs, q⟩ := q
  refine tX_run rm rs q fun d m1 ρ1 H1 v _ _ rm1 rs1 rp _ _ q1 => ?_
  have e : v = d := rp
  rw [e]
  cases d with
  | true => exact (if_pos rfl).mpr ⟨ρ1, s, m1, rm1, rs1, q1⟩
  | false => exact (if_neg Bool.false_ne_true).mpr ⟨ρ1, s, m1, rm1, rs1, q1⟩

/-! ### chains -/
theorem imp_chain {p p' : Pr} {r r' : R2} (k : Pk2 t X.K p r) (k' : Pk2 t X.K p' r') {xa xb xc : Ex} {σ : L2.St} {H : Hp} {Q : VK} (q : tE t X.K W (xChain p p' xa xb xc) σ H Q) : tChain r r' (tE t X.K W xa) (tE t X.K W xb) (tE t X.K W xc) σ H Q := by
  obtain ⟨ρ, s, m, rm, rs, q⟩ := q
  refine tX_run rm rs q fun x m1 ρ1 H1 v _ _ rm1 rs1 rx bx _ q1 => tX_run rm1 rs1 q1 fun y m2 ρ2 H2 u _ ex2 rm2 rs2 ry by_ hl2 q2 => ?_
  refine k _ _ _ _ _ _ _ _ _ rm2 (Rep.ext ex2 x v bx rx) ry (D.bel_le hl2 x bx) by_ (RQ.bind q2 fun z m3 ρ3 H3 z' e3 ex3 rm3 rz bz hl3 q3 => ?_)
  unfold boolR at q3
  cases z <;> try exact False.elim q3
  rename_i c
  refine ⟨c, rep_bl (t := t) (K := X.K) (ρ := ρ3) (H := H3) rz, ?_⟩
  have rs3 := rs2.ext ex3 hl3
  cases c with
  | false => exact (if_neg Bool.false_ne_true).mpr (RQ.ok (S := srD) (d := D.bl false) (v := V.bl false) q3 rm3 (show Rep t X.K ρ3 H3 (.bl false) (.bl false) from Rep.bl) (show D.bel m3.len (.bl false) from bel_bl) (Nat.le_refl _))
  | true =>
    refine (if_pos rfl).mpr (tX_run (f := fun w m5 => prim p' [y, w] m5) rm3 rs3 q3 fun w' m4 ρ4 H4 v4 _ ex4 rm4 _ r4 b4 hl4 q4 => ?_)
    exact k' _ _ _ _ _ _ _ _ _ rm4 (Rep.ext ex4 y u (D.bel_le hl3 y by_) (Rep.ext ex3 y u by_ ry)) r4 (D.bel_le hl4 y (D.bel_le hl3 y by_)) b4 q4
theorem s_chain (G : Gd t n C W X) {op op' : CmpOp} {p p' : Pr} {a b c : Expr} {xa xb xc : Ex} {pos : Pos} (h : cmpP op b = some p) (h' : cmpP op' c = some p') (hm : lastMarks [op, op'] [b, c] = false)
    (ha : PE X a (tE t X.K W xa)) (hb : PE X b (tE t X.K W xb)) (hc : PE X c (tE t X.K W xc)) : PE X (.Compare a [op, op'] [b, c] pos) (tE t X.K W (xChain p p' xa xb xc)) := by
  obtain ⟨r, o, k⟩ := cmp_rule G h
  obtain ⟨r', o', k'⟩ := cmp_rule G h'
  exact PE.imp (pe_chain o o' ha hb hc hm) fun σ H Q q => imp_chain k k' q
theorem s_tchain (G : Gd t n C W X) {op op' : CmpOp} {p p' : Pr} {a b c : Expr} {xa xb xc : Ex} {pos : Pos} (h : cmpP op b = some p) (h' : cmpP op' c = some p') (hm : lastMarks [op, op'] [b, c] = false)
    (ha : PE X a (tE t X.K W xa)) (hb : PE X b (tE t X.K W xb)) (hc : PE X c (tE t X.K W xc)) : PT X (.Compare a [op, op'] [b, c] pos) (tT t X.K W (xTru (xChain p p' xa xb xc))) := by
  obtain ⟨r, o, k⟩ := cmp_rule G h
  obtain ⟨r', o', k'⟩ := cmp_rule G h'
  refine PT.imp (pt_chain o o' ha hb hc hm) fun σ H Q q => ?_
  obtain ⟨ρ, s, m, rm, rs, q⟩ := q
  refine imp_chain k k' ⟨ρ, s, m, rm, rs, tru_bl (fun d m' e => ?_) q⟩
  unfold xChain at e
  cases e1 : xa s m with
  | exc c fs m1 => rw [e1] at e; cases e
  | stuck => rw [e1] at e; cases e
  | ok d1 m1 =>
    rw [e1] at e
    simp only [Rs.bind] at e
    cases e2 : xb s m1 with
    | exc c fs m1 => rw [e2] at e; cases e
    | stuck => rw [e2] at e; cases e
    | ok d2 m2 =>
      rw [e2] at e
      simp only [Rs.bind] at e
      cases e3 : prim p [d1, d2] m2 with
      | exc c fs m1 => rw [e3] at e; cases e
      | stuck => rw [e3] at e; cases e
      | ok d3 m3 =>
        rw [e3] at e
        obtain ⟨c1, rfl⟩ := cmpRes (cmpP_is h) e3
        simp only [boolR] at e
        cases c1 with
        | false =>
          simp only at e
          cases e
          exact ⟨false, rfl, rfl⟩
        | true =>
          simp only at e
          cases e4 : xc s m3 with
          | exc c fs m1 => rw [e4] at e; cases e
          | stuck => rw [e4] at e; cases e
          | ok d4 m4 =>
            rw [e4] at e
            simp only at e
            obtain ⟨c2, rfl⟩ := cmpRes (cmpP_is h') e
            exact ⟨c2, rfl, rfl⟩

/-! ### argument lists, displays -/
def noStar : Expr → Bool
  | .Starred _ _ => false
  | _ => true
theorem star_of {e : Expr} (h : noStar e = true) (es : List Expr) (env : Env) : starEach (e :: es) env = (false, eval e env) :: starEach es env := by
  cases e <;> first | rfl | cases h
theorem s_pnil : PA X [] (tA t X.K W xNil) := PA.imp pa_nil fun σ H Q ⟨ρ, s, m, rm, rs, q⟩ => RQ.ok (S := srL) (v := ([] : List V)) q rm (by show Reps _ _ _ _ _ _; simp only [Reps]) (by show D.bels _ _; simp only [D.bels]) (Nat.le_refl _)
theorem s_pcons {e : Expr} {es : List Expr} {x : Ex} {xs : ExL} (hs : noStar e = true) (he : PE X e (tE t X.K W x)) (hr : PA X es (tA t X.K W xs)) : PA X (e :: es) (tA t X.K W (xCons x xs)) := by
  refine PA.imp (pa_cons he hr (star_of hs _ _)) fun σ H Q ⟨ρ, s, m, rm, rs, q⟩ => ?_
  unfold xCons at q
  refine tX_run rm rs q fun d m1 ρ1 H1 v _ _ rm1 rs1 rp bl _ q1 => tX_run rm1 rs1 q1 fun ds m2 ρ2 H2 vs _ ex rm2 _ rps bls hl q2 => ?_
  exact RQ.ok (S := srL) (v := v :: vs) q2 rm2 (by show Reps _ _ _ _ _ _; simp only [Reps]; exact ⟨Rep.ext ex d v bl rp, rps⟩) (by show D.bels _ _; simp only [D.bels]; exact ⟨D.bel_le hl d bl, bls⟩) (Nat.le_refl _)
theorem evL_len (C : Ct) : ∀ (es : List CE) (s : Sl) (m : Mem) (ds : List D) (m' : Mem), evL C es s m = .ok ds m' → ds.length = es.length
  | [], s, m, ds, m', h => by
    simp only [evL, xNil] at h
    cases h
    rfl
  | e :: es, s, m, ds, m', h => by
    simp only [evL, xCons] at h
    cases e1 : evE C e s m with
    | exc c fs m1 => rw [e1] at h; cases h
    | stuck => rw [e1] at h; cases h
    | ok d m1 =>
      rw [e1] at h
      simp only [Rs.bind] at h
      cases e2 : evL C es s m1 with
      | exc c fs m1 => rw [e2] at h; cases h
      | stuck => rw [e2] at h; cases h
      | ok ds2 m2 =>
        rw [e2] at h
        simp only at h
        cases h
        simp only [List.length_cons, evL_len C es s m1 ds2 m' e2]
theorem sz_small {n : Nat} (h : n ≤ 1000) : n ≤ sizeLine := Nat.le_trans h (by decide)
theorem s_tup {es : List Expr} {xs : List CE} {k : Nat} {pos : Pos} (hz : xs.length ≤ 1000) (ha : PA X es (tA t X.K W (evL C xs))) : PE X (.Tuple es k pos) (tE t X.K W (xTup (evL C xs))) := by
  refine PE.imp (pe_tup ha) fun σ H Q ⟨ρ, s, m, rm, rs, q⟩ => ?_
  refine tX_run rm rs q fun ds m1 ρ1 H1 vs e _ rm1 _ rps bls _ q1 => ⟨?_, RQ.newT q1 rm1 rps bls⟩
  rw [← Reps.length rps, evL_len C xs _ _ _ _ e]
  exact sz_small hz
theorem s_lst {es : List Expr} {xs : List CE} {pos : Pos} (hz : xs.length ≤ 1000) (ha : PA X es (tA t X.K W (evL C xs))) : PE X (.List es pos) (tE t X.K W (xLst (evL C xs))) := by
  refine PE.imp (pe_lst ha) fun σ H Q ⟨ρ, s, m, rm, rs, q⟩ => ?_
  refine tX_run rm rs q fun ds m1 ρ1 H1 vs e _ rm1 _ rps bls _ q1 => ⟨?_, RQ.newLst q1 rm1 rps bls⟩
  rw [← Reps.length rps, evL_len C xs _ _ _ _ e]
  exact sz_small hz
theorem s_dic {pos : Pos} : PE X (.Dict [] [] pos) (tE t X.K W (xDic [] [])) :=
  PE.imp pe_dnewK fun σ H Q ⟨ρ, s, m, rm, rs, q⟩ => RQ.newK q rm (by simp only [RepKv]) List.nodup_nil (by simp only [belKv])

/-! ### subscripts, slices -/
def noSlice : Expr → Bool
  | .Slice _ _ _ _ => false
  | _ => true
theorem plainIx_of {b : Expr} (h : noSlice b = true) : PlainIx b := fun o i => by cases b <;> first | rfl | cases h
theorem s_idx (G : Gd t n C W X) {a b : Expr} {xa xb : Ex} {pos : Pos} (h : noSlice b = true) (ha : PE X a (tE t X.K W xa)) (hb : PE X b (tE t X.K W xb)) : PE X (.Subscript a b pos) (tE t X.K W (xPr .idx (xCons xa (xCons xb xNil)))) :=
  PE.imp (pe_ix (o_idx (by have := G.un; omega)) ha hb (plainIx_of h)) fun σ H Q q => imp2 pk_idx q
/-- a part of a slice, read -/
abbrev tOo (t : Tx) (K : PySem.W.Frag) (W : WX) (x : ExO) : TO := tX srO t K W x
theorem PO.imp {e : Option Expr} {u u' : TO} (h : PO X e u) (i : ∀ σ H Q, u' σ H Q → u σ H Q) : PO X e u' := ⟨fun pins s σ H Q I hq => h.run pins s σ H Q I (i σ H Q hq)⟩
theorem s_noP : PO X none (tOo t X.K W xNoP) := PO.imp po_none fun σ H Q ⟨ρ, s, m, rm, rs, q⟩ => RQ.ok (S := srO) (v := (none : Option Int)) q rm rfl trivial (Nat.le_refl _)
theorem s_at {e : Expr} {x : Ex} (he : PE X e (tE t X.K W x)) : PO X (some e) (tOo t X.K W (xAt x)) := by
  refine PO.imp (po_some he) fun σ H Q ⟨ρ, s, m, rm, rs, q⟩ => ?_
  refine tX_run rm rs q fun d m1 ρ1 H1 v _ _ rm1 _ rp _ _ q1 => ?_
  unfold intR at q1
  cases d with
  | int i => exact ⟨i, rep_int (t := t) (K := X.K) (ρ := ρ1) (H := H1) rp, RQ.ok (S := srO) (v := some i) q1 rm1 rfl trivial (Nat.le_refl _)⟩
  | _ => exact False.elim q1
theorem s_sl {a : Expr} {lo hi : Option Expr} {xa : Ex} {xl xh : ExO} {pos p2 : Pos} (ha : PE X a (tE t X.K W xa)) (hl : PO X lo (tOo t X.K W xl)) (hh : PO X hi (tOo t X.K W xh)) : PE X (.Subscript a (.Slice lo hi none p2) pos) (tE t X.K W (xSl xa xl xh)) := by
  refine PE.imp (pe_slice o_sl ha hl hh) fun σ H Q ⟨ρ, s, m, rm, rs, q⟩ => ?_
  refine tX_run rm rs q fun d m1 ρ1 H1 v _ _ rm1 rs1 rp bl _ q1 => tX_run rm1 rs1 q1 fun l m2 ρ2 H2 l' _ e2 rm2 rs2 rl _ hl2 q2 => tX_run rm2 rs2 q2 fun h m3 ρ3 H3 h' _ e3 rm3 _ rh _ hl3 q3 => ?_
  have el : l' = l := rl
  have eh : h' = h := rh
  rw [el, eh]
  exact pk_sl rm3 (Rep.ext e3 d v (D.bel_le hl2 d bl) (Rep.ext e2 d v bl rp)) (D.bel_le hl3 d (D.bel_le hl2 d bl)) q3
theorem s_rev {a : Expr} {xa : Ex} {k : Nat} {p1 p2 p3 pos : Pos} (ha : PE X a (tE t X.K W xa)) : PE X (.Subscript a (.Slice none none (some (.UnaryOp .USub (.Constant (.int 1) k p1) p2)) p3) pos) (tE t X.K W (xRev xa)) := by
  refine PE.imp (pe_revL ha) fun σ H Q ⟨ρ, s, m, rm, rs, q⟩ => ?_
  exact tX_run rm rs q fun d m1 ρ1 H1 v _ _ rm1 _ rp bl _ q1 => pk_rev rm1 rp bl q1

/-! ### built-in functions -/
theorem noAny {es : List Expr} (h : es.all noStar = true) (pos : Pos) (env : Env) : (backTo pos (starEach es env)).any (·.1) = false := by
  induction es with
  | nil => rfl
  | cons e es ih =>
    simp only [List.all_cons, Bool.and_eq_true] at h
    rw [star_of h.1]
    cases es with
    | nil => rfl
    | cons e2 es => 
      have q := ih h.2
      rw [star_of (by simp only [List.all_cons, Bool.and_eq_true] at h; exact h.2.1)] at q ⊢
      simpa [backTo] using q
theorem s_b1 {p : Pr} {f : Str} {r : List V → Hp → VK → Prop} {a : Expr} {xa : Ex} {id : String} {pn pos : Pos} (hc : CallR X (.builtin id) r) (pk : Pk1 t X.K p fun v H Q => r [v] H Q) (hg : glB X.env.scope f = true) (hm : X.mg f = none) (hv : bootBuiltins f = some (.builtin id))
    (hn : f ≠ "__name__") (hd : (f == ("__debug__" : Str)) = false) (hs : noStar a = true) (ha : PE X a (tE t X.K W xa)) : PE X (.Call (.Name f pn) [a] [] pos) (tE t X.K W (xPr p (xCons xa xNil))) :=
  PE.imp (pe_callB hc (gl_of hg) hm hv (pa_cons ha pa_nil (star_of hs _ _)) hn hd (star_of hs _ _) rfl) fun σ H Q q => imp1 pk q
theorem s_t1 {p : Pr} {f : Str} {r : List V → Hp → VK → Prop} {a : Expr} {xa : Ex} {T : String} {pn pos : Pos} (hc : CallR X (.type T) r) (pk : Pk1 t X.K p fun v H Q => r [v] H Q) (hg : glB X.env.scope f = true) (hm : X.mg f = none) (hv : bootBuiltins f = some (.type T))
    (hn : f ≠ "__name__") (hd : (f == ("__debug__" : Str)) = false) (hs : noStar a = true) (ha : PE X a (tE t X.K W xa)) : PE X (.Call (.Name f pn) [a] [] pos) (tE t X.K W (xPr p (xCons xa xNil))) :=
  PE.imp (pe_callTy hc (gl_of hg) hm hv (pa_cons ha pa_nil (star_of hs _ _)) hn hd (star_of hs _ _) rfl) fun σ H Q q => imp1 pk q
theorem s_b2 {p : Pr} {f : Str} {r : List V → Hp → VK → Prop} {a b : Expr} {xa xb : Ex} {id : String} {pn pos : Pos} (hc : CallR X (.builtin id) r) (pk : Pk2 t X.K p fun v u H Q => r [v, u] H Q) (hg : glB X.env.scope f = true) (hm : X.mg f = none) (hv : bootBuiltins f = some (.builtin id))
    (hn : f ≠ "__name__") (hd : (f == ("__debug__" : Str)) = false) (hs : noStar a = true) (hs2 : noStar b = true) (ha : PE X a (tE t X.K W xa)) (hb : PE X b (tE t X.K W xb)) : PE X (.Call (.Name f pn) [a, b] [] pos) (tE t X.K W (xPr p (xCons xa (xCons xb xNil)))) :=
  PE.imp (pe_callB hc (gl_of hg) hm hv (pa_cons ha (pa_cons hb pa_nil (star_of hs2 _ _)) (star_of hs _ _)) hn hd (star_of hs _ _) (noAny (by simp [hs2]) _ _)) fun σ H Q q => imp2 pk q
/-- functions of one argument -/
def biP : Pr → Option Str
  | .len => some "len"
  | .list => some "list"
  | .tuple => some "tuple"
  | .dict => some "dict"
  | .sum => some "sum"
  | .all => some "all"
  | .any => some "any"
  | .abs => some "abs"
  | .int => some "int"
  | .bool => some "bool"
  | .str => some "str"
  | .repr => some "repr"
  | .max1 => some "max"
  | .min1 => some "min"
  | .sorted => some "sorted"
  | _ => none
theorem s_bi1 (G : Gd t n C W X) {p : Pr} {f : Str} {a : Expr} {xa : Ex} {pn pos : Pos} (h : biP p = some f) (hg : glB X.env.scope f = true) (hs : noStar a = true) (ha : PE X a (tE t X.K W xa)) : PE X (.Call (.Name f pn) [a] [] pos) (tE t X.K W (xPr p (xCons xa xNil))) := by
  cases p <;> cases h
  · exact s_b1 o_len pk_len hg (G.bi _ (by decide)) (by decide +kernel) (by decide) (by decide) hs ha
  · exact s_t1 (o_list G.calm) pk_list hg (G.bi _ (by decide)) (by decide +kernel) (by decide) (by decide) hs ha
  · exact s_t1 o_tuple pk_tuple hg (G.bi _ (by decide)) (by decide +kernel) (by decide) (by decide) hs ha
  · exact s_t1 (o_dict G.calm) pk_dict hg (G.bi _ (by decide)) (by decide +kernel) (by decide) (by decide) hs ha
  · exact s_b1 (cr_sum G.calm) pk_sum hg (G.bi _ (by decide)) (by decide +kernel) (by decide) (by decide) hs ha
  · exact s_b1 (cr_all G.calm) pk_all hg (G.bi _ (by decide)) (by decide +kernel) (by decide) (by decide) hs ha
  · exact s_b1 (cr_any G.calm) pk_any hg (G.bi _ (by decide)) (by decide +kernel) (by decide) (by decide) hs ha
  · exact s_b1 (o_sorted G.calm) pk_sorted hg (G.bi _ (by decide)) (by decide +kernel) (by decide) (by decide) hs ha
  · exact s_b1 call_abs pk_abs hg (G.bi _ (by decide)) (by decide +kernel) (by decide) (by decide) hs ha
  · exact s_t1 call_int1 pk_int hg (G.bi _ (by decide)) (by decide +kernel) (by decide) (by decide) hs ha
  · exact s_t1 call_bool1 pk_bool hg (G.bi _ (by decide)) (by decide +kernel) (by decide) (by decide) hs ha
  · exact s_t1 o_str pk_str hg (G.bi _ (by decide)) (by decide +kernel) (by decide) (by decide) hs ha
  · exact s_b1 (o_repr G.gu G.un) pk_repr hg (G.bi _ (by decide)) (by decide +kernel) (by decide) (by decide) hs ha
  · exact s_b1 (cr_max G.calm) pk_max1 hg (G.bi _ (by decide)) (by decide +kernel) (by decide) (by decide) hs ha
  · exact s_b1 (cr_min G.calm) pk_min1 hg (G.bi _ (by decide)) (by decide +kernel) (by decide) (by decide) hs ha
def biP2 : Pr → Option Str
  | .max2 => some "max"
  | .min2 => some "min"
  | _ => none
theorem s_bi2 (G : Gd t n C W X) {p : Pr} {f : Str} {a b : Expr} {xa xb : Ex} {pn pos : Pos} (h : biP2 p = some f) (hg : glB X.env.scope f = true) (hs : noStar a = true) (hs2 : noStar b = true) (ha : PE X a (tE t X.K W xa)) (hb : PE X b (tE t X.K W xb)) :
    PE X (.Call (.Name f pn) [a, b] [] pos) (tE t X.K W (xPr p (xCons xa (xCons xb xNil)))) := by
  cases p <;> cases h
  · exact s_b2 (call_max2 G.calm) pk_max2 hg (G.bi _ (by decide)) (by decide +kernel) (by decide) (by decide) hs hs2 ha hb
  · exact s_b2 (call_min2 G.calm) pk_min2 hg (G.bi _ (by decide)) (by decide +kernel) (by decide) (by decide) hs hs2 ha hb
def isP : Pr → Option Str
  | .isInt => some "int"
  | .isBool => some "bool"
  | .isTuple => some "tuple"
  | .isStr => some "str"
  | .isList => some "list"
  | _ => none
theorem s_isT (G : Gd t n C W X) {p : Pr} {T : String} {f : Ty → Bool} {a : Expr} {xa : Ex} {pn p2 pos : Pos} (hp : prim p = p_is f) (hf : ∀ k, kitB (tyS k) T = some (f k)) (hg : glB X.env.scope "isinstance" = true) (hgT : glB X.env.scope T = true) (hm : X.mg T = none) (hv : bootBuiltins T = some (.type T))
    (hn : (T : Str) ≠ "__name__") (hd : ((T : Str) == ("__debug__" : Str)) = false) (hs : noStar a = true) (ha : PE X a (tE t X.K W xa)) : PE X (.Call (.Name "isinstance" pn) [a, .Name T p2] [] pos) (tE t X.K W (xPr p (xCons xa xNil))) := by
  refine PE.imp (pe_callB call_isi (gl_of hg) (G.bi _ (by decide)) (by decide +kernel) (pa_cons ha (pa_cons (pe_bltn (v := .ty T) (gl_of hgT) hm hv rfl hn hd) pa_nil rfl) (star_of hs _ _)) (by decide) (by decide) (star_of hs _ _) rfl) fun σ H Q ⟨ρ, s, m, rm, rs, q⟩ => ?_
  rw [xPr1, hp] at q
  exact tX_run rm rs q fun d m1 ρ1 H1 v _ _ rm1 _ rp _ _ q1 => pk_is hf _ _ _ _ _ _ _ rm1 rp q1
theorem s_is (G : Gd t n C W X) {p : Pr} {T : Str} {a : Expr} {xa : Ex} {pn p2 pos : Pos} (h : isP p = some T) (hg : glB X.env.scope "isinstance" = true) (hgT : glB X.env.scope T = true) (hs : noStar a = true) (ha : PE X a (tE t X.K W xa)) :
    PE X (.Call (.Name "isinstance" pn) [a, .Name T p2] [] pos) (tE t X.K W (xPr p (xCons xa xNil))) := by
  cases p <;> cases h
  · exact s_isT G rfl kit_int hg hgT (G.bi _ (by decide)) (by decide +kernel) (by decide) (by decide) hs ha
  · exact s_isT G rfl kit_bool hg hgT (G.bi _ (by decide)) (by decide +kernel) (by decide) (by decide) hs ha
  · exact s_isT G rfl kit_tuple hg hgT (G.bi _ (by decide)) (by decide +kernel) (by decide) (by decide) hs ha
  · exact s_isT G rfl kit_str hg hgT (G.bi _ (by decide)) (by decide +kernel) (by decide) (by decide) hs ha
  · exact s_isT G rfl kit_list hg hgT (G.bi _ (by decide)) (by decide +kernel) (by decide) (by decide) hs ha
end
end NV

set_option Elab.async false
set_option linter.all false
set_option maxRecDepth 100000
set_option maxHeartbeats 4000000
/-! NvExp3: methods of lists and dicts, calls of defs. -/
namespace NV
open PySem PySem.Spec PyProof.Rows L2
section
variable {t : Tx} {n : Nx} {C : Ct} {W : WX} {X : Cx}

def noSup : Expr → Bool
  | .Call _ [] [] _ => false
  | _ => true
theorem base_of {o : Expr} (h : noSup o = true) (f : Str) (env : Env) : attributeBase o f env (eval o env) = eval o env := by
  unfold attributeBase
  split
  · cases h
  · rfl
def lineB (apos cpos : Pos) : Bool := apos.endLine == cpos.line

theorem kind_lst {K : PySem.W.Frag} {ρ : Pl} {H : Hp} {m : Mem} {k : Nat} (rm : RelM t K ρ H m) (h : isLst m k = true) : tyV K "list" (.ref (ρ k)) H := by
  unfold isLst at h
  cases g : m.get k with
  | none => simp only [g] at h; cases h
  | some o =>
    cases o with
    | lst xs =>
      obtain ⟨vs, q1, q2, q3⟩ := get_lst rm g
      exact .inl ⟨rfl, vs, .inl (.inl q1)⟩
    | dic kvs => simp only [g] at h; cases h
    | ins c fs => simp only [g] at h; cases h
theorem kind_dic {K : PySem.W.Frag} {ρ : Pl} {H : Hp} {m : Mem} {k : Nat} (rm : RelM t K ρ H m) (h : isDic m k = true) : ∃ kvs, H (ρ k) = some (.dK kvs) := by
  unfold isDic at h
  cases g : m.get k with
  | none => simp only [g] at h; cases h
  | some o =>
    cases o with
    | dic kvs =>
      obtain ⟨vs, q1, q2, q3⟩ := get_dic rm g
      exact ⟨vs, q1⟩
    | lst xs => simp only [g] at h; cases h
    | ins c fs => simp only [g] at h; cases h
/-- methods of lists -/
def lstM : Pr → Bool
  | .append => true
  | .remove => true
  | .pop0 => true
  | .pop1 => true
  | .index => true
  | _ => false
theorem kind_m {p : Pr} (h : lstM p = true) {d : D} {m : Mem} (k : kindOk p d m = true) : ∃ j, d = .loc j ∧ isLst m j = true := by
  cases p <;> cases h <;> (cases d <;> first | exact ⟨_, rfl, k⟩ | cases k)
theorem s_m1 {p : Pr} {name : Str} {id : String} {r : V → List V → Hp → VK → Prop} {o e : Expr} {xo xe : Ex} {apos cpos : Pos} (slot : Slot "list" name id) (hty : typeOf (.builtin id) = pure (.type "method_descriptor")) (hm : MtR X id r) (pk : Pk2 t X.K p fun v u H Q => r v [u] H Q) (hl : lstM p = true)
    (hn : noSup o = true) (hb : lineB apos cpos = true) (hs : noStar e = true) (ho : PE X o (tE t X.K W xo)) (he : PE X e (tE t X.K W xe)) : PE X (.Call (.Attribute o name apos) [e] [] cpos) (tE t X.K W (xMe p xo (xCons xe xNil))) := by
  refine PE.imp (pe_bm PySem.F.plainAttrs_list slot hty hm ho (pa_cons he pa_nil (star_of hs _ _)) (base_of hn _ _) (by rw [star_of hs]; rfl) hb (star_of hs _ _) rfl) fun σ H Q ⟨ρ, s, m, rm, rs, q⟩ => ?_
  unfold xMe at q
  refine tX_run rm rs q fun d m1 ρ1 H1 v _ _ rm1 rs1 rp bl _ q1 => ?_
  cases hk : kindOk p d m1 with
  | false => simp only [hk] at q1; exact False.elim q1
  | true =>
    simp only [hk] at q1
    obtain ⟨j, rfl, hj⟩ := kind_m hl hk
    have ev := rep_loc (t := t) (K := X.K) (ρ := ρ1) (H := H1) rp
    rw [ev]
    refine ⟨kind_lst rm1 hj, ?_⟩
    unfold xCons xNil at q1
    rw [bind_assoc] at q1
    refine tX_run rm1 rs1 q1 fun e2 m2 ρ2 H2 u _ ex rm2 _ rp2 bl2 hl2 q2 => ?_
    have rx := Rep.ext (t := t) (K := X.K) ex _ v bl rp
    rw [ev] at rx
    exact pk _ _ _ _ _ _ _ _ _ rm2 rx rp2 (D.bel_le hl2 _ bl) bl2 q2
theorem s_m0 {p : Pr} {name : Str} {id : String} {r : V → List V → Hp → VK → Prop} {o : Expr} {xo : Ex} {apos cpos : Pos} (slot : Slot "list" name id) (hty : typeOf (.builtin id) = pure (.type "method_descriptor")) (hm : MtR X id r) (pk : Pk1 t X.K p fun v H Q => r v [] H Q) (hl : lstM p = true)
    (hn : noSup o = true) (hb : lineB apos cpos = true) (ho : PE X o (tE t X.K W xo)) : PE X (.Call (.Attribute o name apos) [] [] cpos) (tE t X.K W (xMe p xo xNil)) := by
  refine PE.imp (pe_bm0 PySem.F.plainAttrs_list slot hty hm ho (base_of hn _ _) hb) fun σ H Q ⟨ρ, s, m, rm, rs, q⟩ => ?_
  unfold xMe at q
  refine tX_run rm rs q fun d m1 ρ1 H1 v _ _ rm1 rs1 rp bl _ q1 => ?_
  cases hk : kindOk p d m1 with
  | false => simp only [hk] at q1; exact False.elim q1
  | true =>
    simp only [hk] at q1
    obtain ⟨j, rfl, hj⟩ := kind_m hl hk
    have ev := rep_loc (t := t) (K := X.K) (ρ := ρ1) (H := H1) rp
    rw [ev]
    refine ⟨kind_lst rm1 hj, ?_⟩
    rw [ev] at rp
    exact pk _ _ _ _ _ _ _ rm1 rp bl q1
def meP1 : Pr → Option Str
  | .append => some "append"
  | .remove => some "remove"
  | .index => some "index"
  | _ => none
theorem s_me1 (G : Gd t n C W X) {p : Pr} {f : Str} {o e : Expr} {xo xe : Ex} {apos cpos : Pos} (h : meP1 p = some f) (hn : noSup o = true) (hb : lineB apos cpos = true) (hs : noStar e = true) (ho : PE X o (tE t X.K W xo)) (he : PE X e (tE t X.K W xe)) :
    PE X (.Call (.Attribute o f apos) [e] [] cpos) (tE t X.K W (xMe p xo (xCons xe xNil))) := by
  cases p <;> cases h
  · exact s_m1 PySem.F.slot_list_append PySem.F.type_list_append mt_append pk_append rfl hn hb hs ho he
  · exact s_m1 PySem.F.slot_list_remove PySem.F.type_list_remove mt_remove pk_remove rfl hn hb hs ho he
  · exact s_m1 PySem.F.slot_list_index PySem.F.type_list_index (mt_indexD G.un) pk_index rfl hn hb hs ho he
theorem s_pop (G : Gd t n C W X) {o : Expr} {xo : Ex} {apos cpos : Pos} (hn : noSup o = true) (hb : lineB apos cpos = true) (ho : PE X o (tE t X.K W xo)) : PE X (.Call (.Attribute o "pop" apos) [] [] cpos) (tE t X.K W (xMe .pop0 xo xNil)) :=
  s_m0 PySem.F.slot_list_pop PySem.F.type_list_pop mt_pop pk_pop0 rfl hn hb ho
theorem s_get2 (G : Gd t n C W X) {o e f : Expr} {xo xe xf : Ex} {apos cpos : Pos} (hn : noSup o = true) (hb : lineB apos cpos = true) (hs : noStar e = true) (hs2 : noStar f = true) (ho : PE X o (tE t X.K W xo)) (he : PE X e (tE t X.K W xe)) (hf : PE X f (tE t X.K W xf)) :
    PE X (.Call (.Attribute o "get" apos) [e, f] [] cpos) (tE t X.K W (xMe .get2 xo (xCons xe (xCons xf xNil)))) := by
  have e1 : starEach [e, f] X.env = [(false, eval e X.env), (false, eval f X.env)] := by rw [star_of hs, star_of hs2]; rfl
  have M : M2 X o "get" apos e f cpos := ⟨base_of hn _ _, by rw [e1]; rfl, hb, by rw [e1]; rfl⟩
  refine PE.imp (pe_dget2 (by have := G.un; omega) ho he hf M) fun σ H Q ⟨ρ, s, m, rm, rs, q⟩ => ?_
  unfold xMe at q
  refine tX_run rm rs q fun d m1 ρ1 H1 v _ _ rm1 rs1 rp bl _ q1 => ?_
  cases hk : kindOk .get2 d m1 with
  | false => simp only [hk] at q1; exact False.elim q1
  | true =>
    simp only [hk] at q1
    obtain ⟨j, rfl, hj⟩ : ∃ j, d = .loc j ∧ isDic m1 j = true := by cases d <;> first | exact ⟨_, rfl, hk⟩ | cases hk
    have ev := rep_loc (t := t) (K := X.K) (ρ := ρ1) (H := H1) rp
    rw [ev]
    obtain ⟨kvs, hK⟩ := kind_dic rm1 hj
    refine ⟨ρ1 j, rfl, .inl ⟨kvs, .inl hK⟩, ?_⟩
    unfold xCons xNil at q1
    rw [bind_assoc] at q1
    refine tX_run rm1 rs1 q1 fun e2 m2 ρ2 H2 u _ ex rm2 rs2 rp2 bl2 hl2 q2 => ?_
    rw [bind_assoc, bind_assoc] at q2
    refine tX_run rm2 rs2 q2 fun e3 m3 ρ3 H3 w _ ex3 rm3 _ rp3 bl3 hl3 q3 => ?_
    have rx := Rep.ext (t := t) (K := X.K) ex3 _ v (D.bel_le hl2 _ bl) (Rep.ext ex _ v bl rp)
    rw [ev] at rx
    obtain ⟨a, ea, _, o', hg, hq⟩ := pk_get2 rm3 rx (Rep.ext ex3 _ u bl2 rp2) rp3 bl3 q3
    cases ea
    exact ⟨o', hg, hq⟩
theorem s_items (G : Gd t n C W X) {o : Expr} {xo : Ex} {p apos cpos pos : Pos} (hg : glB X.env.scope "list" = true) (hn : noSup o = true) (hb : lineB apos cpos = true) (ho : PE X o (tE t X.K W xo)) :
    PE X (.Call (.Name "list" p) [.Call (.Attribute o "items" apos) [] [] cpos] [] pos) (tE t X.K W (xPr .lstItems (xCons xo xNil))) :=
  PE.imp (LiI.pe_listItems G.calm ho (gl_of hg) (G.bi _ (by decide)) (by decide +kernel) (base_of hn _ _) hb rfl) fun σ H Q q => imp1 pk_lstItems q

/-! ### calls -/
theorem s_call0 (G : Gd t n C W X) {k : Nat} {f : Str} {p pos : Pos} (hk : n.fnm[k]? = some f) (hg : glB X.env.scope f = true) (hn : nmB f = true) : PE X (.Call (.Name f p) [] [] pos) (tE t X.K W (xCall C k xNil)) := by
  obtain ⟨h1, h2⟩ := G.fns k f hk (nm_ne hn)
  refine ⟨fun pins s σ H Q I h => ?_⟩
  refine wpAny_Call_Name_kw (ld_glob I (gl_of hg) h1 ?_ (nm_of hn).1)
  obtain ⟨ρ, s', m, rm, rs, q⟩ := h
  exact PySem.W.callWith_K0 I.kIn h2 (G.call hk pins s σ H [] [] Q ρ [] m I .nil rm (by simp only [Reps]) (by simp only [D.bels]) q)
theorem s_call (G : Gd t n C W X) {k : Nat} {f : Str} {e : Expr} {es : List Expr} {xs : ExL} {p pos : Pos} (hk : n.fnm[k]? = some f) (hg : glB X.env.scope f = true) (hn : nmB f = true) (hs : noStar e = true) (hss : es.all noStar = true) (ha : PA X (e :: es) (tA t X.K W xs)) :
    PE X (.Call (.Name f p) (e :: es) [] pos) (tE t X.K W (xCall C k xs)) := by
  obtain ⟨h1, h2⟩ := G.fns k f hk (nm_ne hn)
  refine ⟨fun pins s σ H Q I h => ?_⟩
  refine wpAny_Call_Name_kw (ld_glob I (gl_of hg) h1 ?_ (nm_of hn).1)
  obtain ⟨ρ, s', m, rm, rs, q⟩ := h
  have ta : tA t X.K W xs σ H fun vs H1 => ∃ ρ1 ds m1, RelM t X.K ρ1 H1 m1 ∧ Reps t X.K ρ1 H1 ds vs ∧ D.bels m1.len ds ∧ RQ srD t X.K (WE W σ) ρ1 H1 m1.len (C.call k ds m1) Q :=
    tX_run rm rs q fun ds m1 ρ1 H1 vs _ _ rm1 _ rps bls _ q1 => ⟨ρ1, ds, m1, rm1, rps, bls, q1⟩
  refine PySem.W.callWith_K (h₀ := X.base) I.ok.mod.kin h2 (thn (ha.run pos pins s σ H _ I ta) fun us s1 ⟨vs, H1, I1, r, ρ1, ds, m1, rm1, rps, bls, q1⟩ => ⟨I1.kIn, ?_⟩) (star_of hs _ _) (noAny hss _ _)
  exact G.call hk pins s1 σ H1 us vs Q ρ1 ds m1 I1 r rm1 rps bls q1
end
end NV

set_option Elab.async false
set_option linter.all false
set_option maxRecDepth 100000
set_option maxHeartbeats 4000000
/-! NvSet: how many unlike things stand in a row. -/
namespace NV
open PySem PySem.Spec PyProof.Rows L2
theorem dedI_fold : ∀ (ns acc : List Int), ns.foldl PyProof.Rows.step_dedup acc = dedI acc ns
  | [], _ => rfl
  | k :: r, acc => by
    rw [List.foldl_cons, dedI, dedI_fold r]
    rfl
theorem firstMet_ded (ns : List Int) : PyProof.Rows.firstMet (fun i => ns.getD i 0) ns.length = dedI [] ns := by
  unfold PyProof.Rows.firstMet
  have e : (List.range ns.length).map (fun i => ns.getD i 0) = ns := by
    apply List.ext_getElem
    · simp
    · intro i h1 h2
      simp [List.getD_eq_getElem?_getD, List.getElem?_eq_getElem h2]
  rw [e, dedI_fold]
theorem dedI_ok : ∀ (ns acc : List Int), acc.Nodup → (dedI acc ns).Nodup ∧ ∀ k, k ∈ dedI acc ns ↔ k ∈ acc ∨ k ∈ ns
  | [], acc, h => ⟨h, fun k => by simp [dedI]⟩
  | j :: r, acc, h => by
    rw [dedI]
    split
    · rename_i hc
      have hj : j ∈ acc := by simpa using hc
      obtain ⟨a, b⟩ := dedI_ok r acc h
      refine ⟨a, fun k => ?_⟩
      rw [b, List.mem_cons]
      constructor
      · rintro (z | z)
        · exact .inl z
        · exact .inr (.inr z)
      · rintro (z | z | z)
        · exact .inl z
        · exact .inl (by rw [z]; exact hj)
        · exact .inr z
    · rename_i hc
      have hj : j ∉ acc := by simpa using hc
      have h2 : (acc ++ [j]).Nodup := by
        rw [List.nodup_append]
        exact ⟨h, by simp, fun a ha b hb => by simp at hb; subst hb; exact fun e => hj (e ▸ ha)⟩
      obtain ⟨a, b⟩ := dedI_ok r _ h2
      refine ⟨a, fun k => ?_⟩
      rw [b, List.mem_append, List.mem_singleton, List.mem_cons, or_assoc]
theorem dedI_len {ns l : List Int} (hn : l.Nodup) (hm : ∀ k, k ∈ l ↔ k ∈ ns) : (dedI [] ns).length = l.length := by
  obtain ⟨a, b⟩ := dedI_ok ns [] List.nodup_nil
  refine ((List.perm_ext_iff_of_nodup a hn).mpr fun k => ?_).length_eq
  rw [b, hm]
  simp
/-- read: the row's ints, then how many unlike ones -/
def tLenS (K : PySem.W.Frag) (ta : TE) : TE := fun σ H Q =>
  ta σ H fun x H1 => ∃ (p : Addr) (ns : List Int), x = V.ref p ∧ (SqL K H1 p (ns.map V.int) ∨ SqT K H1 p (ns.map V.int)) ∧ ns.length ≤ 1000 ∧ Q (.int (dedI [] ns).length) H1
section
variable {t : Tx} {n : Nx} {C : Ct} {W : WX} {X : Cx}
theorem pe_lenS {a : Expr} {ta : TE} {p1 p2 q pos : Pos} (hc : X.calm = true) (h1 : Gl X "len") (h2 : X.mg "len" = none) (h3 : Gl X "set") (h4 : X.mg "set" = none) (ha : PE X a ta) (hs : noStar a = true) :
    PE X (.Call (.Name "len" p1) [.Call (.Name "set" p2) [a] [] q] [] pos) (tLenS X.K ta) := by
  have na := star_of hs [] X.env
  constructor
  intro pins s σ H Q I h
  refine Call_ (ld_blt I h1 h2 PySem.boot_len (PyProof.Rows.callWith_builtin1 (PyProof.Rows.args_cons ?_ rfl) rfl rfl))
  refine Call_ (ld_blt I h3 h4 PyProof.Rows.boot_set (PyProof.Rows.callWith_type1 (PyProof.Rows.args_cons ?_ na) na rfl))
  refine thn (ha.run pins s σ H _ I h) ?_
  rintro v s1 ⟨x, H1, I1, r1, l, ns, rfl, hq, hz, q1⟩
  refine PyProof.Rows.args_nil ?_
  cases r1
  rcases hq with hq | hq
  · obtain ⟨its, r, pl, _⟩ := I1.list hq
    have hl : its.toArray.size = ns.length := by
      rw [List.size_toArray, ← r.length, List.length_map]
    refine call_set_list (I1.ok.hd hc) pl.isList (ns := ns) (by simpa using r.ints) (by unfold scanBound; omega) ?_
    intro h' tk hS hk
    rw [hl, firstMet_ded] at hS
    refine PyProof.Rows.args_nil ?_
    obtain ⟨o, es, ep, tb, ho, hex, hd, _, _, _, hf, hn⟩ := hS
    have I2 : Inv X pins σ H1 { s1 with heap := h', toks := tk } := I1.kept fun b o e => hk b o (Heap.lt_size e) e
    have hlen : (dedI [] ns).length ≤ ns.length := by
      rw [← firstMet_ded]
      exact PyProof.Rows.firstMet_length_le _ _
    refine call_len_set ho hex hd hf ?_ ?_
    · rw [hn]; omega
    · exact ⟨.int (dedI [] ns).length, H1, I2.tok _, ⟨_, by rw [hn]⟩, q1⟩
  · obtain ⟨its, rv, pt, _⟩ := I1.tuple hq
    refine call_set_tupI ns (I1.ok.hd hc) (show s1.heap.IsTuple l its.toArray from pt) (ints_of_vals rv) (by unfold scanBound; omega) ?_
    intro h' tk c R1 hcn k
    refine PyProof.Rows.args_nil ?_
    obtain ⟨o, es, ep, tb, ho, hex, hd, g, nd, hm2, hb, hf, hn, _, _⟩ := R1
    have I2 : Inv X pins σ H1 { s1 with heap := h', toks := tk } := I1.kept k
    have e1 : (dedI [] ns).length = es.size := by
      rw [dedI_len nd fun j => by rw [← hm2 j, decide_eq_true_eq]]
      simp
    refine call_len_set ho hex hd hf ?_ ?_
    · omega
    · exact ⟨.int (dedI [] ns).length, H1, I2.tok _, ⟨_, by rw [e1]⟩, q1⟩
theorem ints_map : ∀ {xs : List NV.D} {ns : List Int}, mapO intOf xs = some ns → xs.length = ns.length
  | [], ns, h => by cases h; rfl
  | x :: xs, ns, h => by
    obtain ⟨y, ys, rfl, _, h2⟩ := mapO_cons h
    simp only [List.length_cons, ints_map h2]
theorem s_lenset (G : Gd t n C W X) {a : Expr} {xa : Ex} {p1 p2 q pos : Pos} (hg1 : glB X.env.scope "len" = true) (hg2 : glB X.env.scope "set" = true) (hs : noStar a = true) (ha : PE X a (tE t X.K W xa)) :
    PE X (.Call (.Name "len" p1) [.Call (.Name "set" p2) [a] [] q] [] pos) (tE t X.K W (xPr .lenset (xCons xa xNil))) := by
  refine PE.imp (pe_lenS G.calm (gl_of hg1) (G.bi _ (by decide)) (gl_of hg2) (G.bi _ (by decide)) ha hs) fun σ H Q ⟨ρ, s, m, rm, rs, q⟩ => ?_
  rw [xPr1] at q
  refine tX_run rm rs q fun d m1 ρ1 H1 v _ _ rm1 _ rp bl _ q1 => ?_
  have q2 : RQ srD t X.K (WE W σ) ρ1 H1 m1.len (p_lenset [d] m1) Q := q1
  unfold p_lenset at q2
  cases hsq : seqOf m1 d with
  | none => simp only [hsq] at q2; exact False.elim q2
  | some xs =>
    simp only [hsq] at q2
    cases hi : mapO intOf xs with
    | none => simp only [hi] at q2; exact False.elim q2
    | some ns =>
      simp only [hi] at q2
      unfold okIf at q2
      cases hz : decide (xs.length ≤ 1000) with
      | false => rw [hz] at q2; exact False.elim q2
      | true =>
        rw [hz, if_pos rfl] at q2
        have hz' := of_decide_eq_true hz
        rw [ints_map hi] at hz'
        obtain ⟨p0, vs, ev, sq, r, _⟩ := seqOf_ok rm1 hsq rp bl
        have evs := ints_of hi r
        subst evs
        exact ⟨p0, ns, ev, sq.elim .inl fun z => .inr z.1, hz', RQ.val q2 rm1 Rep.int bel_int⟩
end
end NV

set_option Elab.async false
set_option linter.all false
set_option maxRecDepth 100000
set_option maxHeartbeats 4000000
/-! NvMet: more methods: dict.update, pop at a place or a key. -/
namespace NV
open PySem PySem.Spec PyProof.Rows L2
section
variable {t : Tx} {n : Nx} {C : Ct} {W : WX} {X : Cx}
theorem ref_dicM {K : PySem.W.Frag} {ρ : Pl} {H : Hp} {m : Mem} {k : Nat} {ds es : List (NV.D × NV.D)} {ks : List (Key × V)} {nl : Bool} (rm : RelM t K ρ H m) (g : m.get k = some (.dic ds)) (r : RepKv t K ρ H es ks) (nd : (ks.map (·.1)).Nodup) (b : belKv m.len es) (hb : nl = true → belKv (limW m.wr k) es) :
    RelM t K ρ (upd H (ρ k) (.dK ks)) (m.put k (.dic es) nl) ∧ Ext ρ H m.len ρ (upd H (ρ k) (.dK ks)) (m.put k (.dic es) nl).len := by
  rw [len_put]
  obtain ⟨us, q1, q2, q3, q4⟩ := get_dic rm g
  have e := ext_put (ρ := ρ) (n := m.len) (o := .dK ks) (get_lt g) q1 (fun _ z => by cases z) (fun _ _ z => by cases z)
  refine ⟨rm.put (u := .dK us) g rfl rfl q1 (fun _ z => by cases z) (fun _ _ z => by cases z) ⟨ks, upd_same, RepKv.ext e es ks b r, nd⟩ ?_, e⟩
  cases nl with
  | true => exact hb rfl
  | false => exact b
/-! ### a.update(b) -/
def rUpd : V → List V → Hp → VK → Prop := fun x vs H Q =>
  ∃ (a b : Addr) (ka kb : List (Key × V)), x = .ref a ∧ vs = [.ref b] ∧ a ≠ b ∧ H a = some (.dK ka) ∧ H b = some (.dK kb) ∧ ka.length + kb.length ≤ sizeLine ∧ Q .non (upd H a (.dK (mergeK ka kb)))
theorem mt_update : MtR X "dict.update" rUpd := by
  rintro pins s σ H x vs v us Q I rx rv ⟨a, b, ka, kb, rfl, rfl, hne, ha, hb, hz, q⟩
  cases rx
  obtain ⟨u, rfl, ru⟩ := rv.one
  cases ru
  obtain ⟨za, ya, va, ra, da⟩ := dk_of I.hok ha
  obtain ⟨zb, yb, vb, rb, db⟩ := dk_of I.hok hb
  refine call_meetsIn PySem.F.slot_dict_update da.typeIs PySem.F.entry_dict_update (PySem.F.args_dict_update_2 _ _) (meets_dict_update (mixKind X.prog X.w) a b hne yb)
    ⟨va, vb, da, db, by rw [← ra.length, ← rb.length]; exact hz, fun h' d1 d2 hs => ⟨.non, _, d_write (t' := s.toks) I (by rw [ha]; exact True.intro) hs ?_ (dk_new ?_ ya (KV.merge rb ra) d1), rfl, q⟩⟩
  · obtain ⟨o, _, _, ho, _⟩ := d1
    exact ⟨o, ho⟩
  · exact Nat.le_trans (length_mergeK kb ka) hz
theorem belKv_nlX {j : Nat} {r : List (NV.D × NV.D)} (h : nlKv r = true) : belKv j r := belKv_nl r h
theorem pk_update {K : PySem.W.Frag} : Pk2 t K .update (fun v u H Q => rUpd v [u] H Q) := by
  intro W ρ H m x y v u Q rm rx ry bx by_ h
  cases x <;> cases y <;> simp only [prim, p_update] at h <;> try (exact False.elim h)
  rename_i a b
  rw [rep_loc rx, rep_loc ry]
  cases ga : m.get a with
  | none => simp only [ga] at h; exact False.elim h
  | some oa =>
    cases gb : m.get b with
    | none => cases oa <;> simp only [ga, gb] at h <;> exact False.elim h
    | some ob =>
      cases oa <;> cases ob <;> simp only [ga, gb] at h <;> try (exact False.elim h)
      rename_i xs ys
      obtain ⟨⟨hne, hz⟩, q⟩ := RQ.iteN h
      obtain ⟨ka, a1, a2, a3, a4⟩ := get_dic rm ga
      obtain ⟨kb, b1, b2, b3, b4⟩ := get_dic rm gb
      have lx := RepKv.length a2
      have ly := RepKv.length b2
      obtain ⟨c1, c2, _⟩ := dPuts_ok (n := m.len) b2 a2 a3
      have c3 := (dPuts_ok (n := m.len) b2 a2 a3).2.2 b4 a4
      have lim := (rm.ob a _ ga).2
      obtain ⟨rm', e'⟩ := ref_dicM (nl := nlKv ys) (es := dPuts xs ys) (ks := mergeK ka kb) rm ga c1 c2 c3 (fun hn => (dPuts_ok (n := limW m.wr a) b2 a2 a3).2.2 (belKv_nl ys hn) lim)
      refine ⟨ρ a, ρ b, ka, kb, rfl, rfl, fun e => hne (rm.inj a b _ _ ga gb rfl rfl e), a1, b1, by omega, ?_⟩
      exact RQ.nonW q e' rm' (by rw [len_put]; exact Nat.le_refl _)
/-! ### a.pop(i), a.pop(k) -/
def rDPop : V → List V → Hp → VK → Prop := fun x vs H Q => ∃ (a : Addr) (kvs : List (Key × V)) (k : Key) (v : V), x = .ref a ∧ vs = [kV k] ∧ H a = some (.dK kvs) ∧ valV kvs k = some v ∧ Q v (upd H a (.dK (dropK kvs k)))
theorem mt_dpop : MtR X "dict.pop" rDPop := by
  rintro pins s σ H x vs v us Q I rx rv ⟨a, kvs, k, y, rfl, rfl, ha, hv, q⟩
  cases rx
  obtain ⟨u, rfl, ru⟩ := rv.one
  exact d_pop I ha ru hv (.inl rfl) fun w' s' J rw' => ⟨y, _, J, rw', q⟩
theorem dDrop_ok {K : PySem.W.Frag} {ρ : Pl} {H : Hp} {x : NV.D} {q : Key} (hq : ∀ k' : NV.D, ∀ q' : Key, keyD k' = true → Rep t K ρ H k' (kV q') → (keyEq k' x = true ↔ q' = q)) : ∀ {kvs : List (NV.D × NV.D)} {ks : List (Key × V)}, RepKv t K ρ H kvs ks → RepKv t K ρ H (dDrop kvs x) (dropK ks q) ∧ ∀ j, belKv j kvs → belKv j (dDrop kvs x)
  | [], [], _ => ⟨trivial, fun _ h => h⟩
  | (k, d) :: r, (q1, v) :: s, ⟨h1, h2, h3, h4⟩ => by
    obtain ⟨i1, i2⟩ := dDrop_ok hq h4
    have hk := hq k q1 h2 h1
    unfold dDrop
    cases c : keyEq k x with
    | true =>
      have e := hk.mp c
      simp only [if_true]
      refine ⟨?_, fun j hb => i2 j hb.2.2⟩
      unfold dropK
      rw [List.filter_cons]
      simp only [e, ne_eq, not_true, decide_false, Bool.false_eq_true, if_false]
      exact i1
    | false =>
      have e : q1 ≠ q := fun z => by rw [hk.mpr z] at c; cases c
      simp only [Bool.false_eq_true, if_false]
      refine ⟨?_, fun j hb => ⟨hb.1, hb.2.1, i2 j hb.2.2⟩⟩
      unfold dropK
      rw [List.filter_cons]
      simp only [ne_eq, e, not_false_eq_true, decide_true, if_true]
      exact ⟨h1, h2, h3, i1⟩
  | [], _ :: _, h => h.elim
  | (_, _) :: _, [], h => h.elim
theorem dropK_nodup {q : Key} {ks : List (Key × V)} (h : (ks.map (·.1)).Nodup) : ((dropK ks q).map (·.1)).Nodup := by
  unfold dropK
  exact List.Sublist.nodup (List.Sublist.map _ List.filter_sublist) h
theorem erase_reps {K : PySem.W.Frag} {ρ : Pl} {H : Hp} : ∀ {xs : List NV.D} {vs : List V} (j : Nat), Reps t K ρ H xs vs → Reps t K ρ H (xs.eraseIdx j) (vs.eraseIdx j)
  | [], [], _, r => r
  | x :: xs, w :: vs, 0, r => by
    simp only [Reps] at r
    exact r.2
  | x :: xs, w :: vs, j + 1, r => by
    simp only [Reps] at r
    simp only [List.eraseIdx_cons_succ, Reps]
    exact ⟨r.1, erase_reps j r.2⟩
  | [], _ :: _, _, r => by simp only [Reps] at r
  | _ :: _, [], _, r => by simp only [Reps] at r
theorem pk_pop1 {K : PySem.W.Frag} : Pk2 t K .pop1 (fun v u H Q => rPopAt v [u] H Q) := by
  intro W ρ H m x y v u Q rm rx ry bx by_ h
  cases x <;> cases y <;> simp only [prim, p_pop1] at h <;> try (exact False.elim h)
  rename_i k i
  rw [rep_loc rx]
  cases g : m.get k with
  | none => simp only [g] at h; exact False.elim h
  | some o =>
    cases o <;> simp only [g] at h <;> try (exact False.elim h)
    rename_i xs
    cases hj : ixI xs.length i with
    | none => simp only [hj] at h; exact False.elim h
    | some j =>
      simp only [hj] at h
      cases hx : xs[j]? with
      | none => simp only [hx] at h; exact False.elim h
      | some z =>
        simp only [hx] at h
        obtain ⟨⟨z1, z2⟩, h⟩ := RQ.iteN h
        obtain ⟨vs, q1, q2, q3⟩ := get_lst rm g
        obtain ⟨w, w1, w2⟩ := q2.get hx
        have b1 : D.bels (limW m.wr k) xs := (rm.ob k _ g).2
        have er : ∀ {n}, D.bels n xs → D.bels n (xs.eraseIdx j) := fun b => bels_iff.mpr fun y hy => bels_iff.mp b y (List.mem_of_mem_eraseIdx hy)
        obtain ⟨rm', e'⟩ := ref_lst (nl := true) (es := xs.eraseIdx j) (us := vs.eraseIdx j) rm g (erase_reps j q2) (er q3) (fun _ => er b1)
        rw [rep_int ry]
        refine ⟨_, vs, i, j, w, rfl, rfl, q1, z1, z2, ?_, w1, ?_⟩
        · rw [← q2.length]
          exact (ixN_seq (show ixN xs.length i = some j from hj)).1
        · exact h ρ _ w e' rm' (Rep.ext e' z w (bels_get q3 hx) w2) (by rw [len_put]; exact bels_get q3 hx) (by rw [len_put]; exact Nat.le_refl _)
theorem pk_popK {K : PySem.W.Frag} : Pk2 t K .popK (fun v u H Q => rDPop v [u] H Q) := by
  intro W ρ H m x y v u Q rm rx ry bx by_ h
  cases x <;> try (exact False.elim h)
  rename_i k
  rw [rep_loc rx]
  simp only [prim, p_popK] at h
  cases g : m.get k with
  | none => simp only [g] at h; exact False.elim h
  | some o =>
    cases o <;> simp only [g] at h <;> try (exact False.elim h)
    rename_i kvs
    cases hk : keyD y with
    | false => simp only [hk] at h; exact False.elim h
    | true =>
      simp only [hk] at h
      obtain ⟨ks, q1, q2, q3, q4⟩ := get_dic rm g
      obtain ⟨key, rfl, hq⟩ := key_rep hk ry
      rcases dGet_ok hq q2 with ⟨hd, _⟩ | ⟨z, w, hd, hw, rz, bz⟩
      · simp only [hd] at h
        exact False.elim h
      · simp only [hd] at h
        obtain ⟨d1, d2⟩ := dDrop_ok hq q2
        have lim := (rm.ob k _ g).2
        obtain ⟨rm', e'⟩ := ref_dicM (nl := true) (es := dDrop kvs y) (ks := dropK ks key) rm g d1 (dropK_nodup q3) (d2 _ q4) (fun _ => d2 _ lim)
        exact ⟨_, ks, key, w, rfl, rfl, q1, hw, h ρ _ w e' rm' (Rep.ext e' z w (bz _ q4) rz) (by rw [len_put]; exact bz _ q4) (by rw [len_put]; exact Nat.le_refl _)⟩
/-- a method of dicts -/
def dicM : Pr → Bool
  | .update => true
  | .popK => true
  | _ => false
theorem kind_d {p : Pr} (h : dicM p = true) {d : NV.D} {m : Mem} (k : kindOk p d m = true) : ∃ j, d = .loc j ∧ isDic m j = true := by
  cases p <;> cases h <;> (cases d <;> first | exact ⟨_, rfl, k⟩ | cases k)
theorem s_d1 {p : Pr} {name : Str} {id : String} {r : V → List V → Hp → VK → Prop} {o e : Expr} {xo xe : Ex} {apos cpos : Pos} (slot : Slot "dict" name id) (hty : typeOf (.builtin id) = pure (.type "method_descriptor")) (hm : MtR X id r) (pk : Pk2 t X.K p fun v u H Q => r v [u] H Q) (hl : dicM p = true)
    (hn : noSup o = true) (hb : lineB apos cpos = true) (hs : noStar e = true) (ho : PE X o (tE t X.K W xo)) (he : PE X e (tE t X.K W xe)) : PE X (.Call (.Attribute o name apos) [e] [] cpos) (tE t X.K W (xMe p xo (xCons xe xNil))) := by
  refine PE.imp (pe_bm PySem.F.plainAttrs_dict slot hty hm ho (pa_cons he pa_nil (star_of hs _ _)) (base_of hn _ _) (by rw [star_of hs]; rfl) hb (star_of hs _ _) rfl) fun σ H Q ⟨ρ, s, m, rm, rs, q⟩ => ?_
  unfold xMe at q
  refine tX_run rm rs q fun d m1 ρ1 H1 v _ _ rm1 rs1 rp bl _ q1 => ?_
  cases hk : kindOk p d m1 with
  | false => simp only [hk] at q1; exact False.elim q1
  | true =>
    simp only [hk] at q1
    obtain ⟨j, rfl, hj⟩ := kind_d hl hk
    have ev := rep_loc (t := t) (K := X.K) (ρ := ρ1) (H := H1) rp
    rw [ev]
    refine ⟨.inr (.inr (.inl ⟨rfl, .inl (kind_dic rm1 hj)⟩)), ?_⟩
    unfold xCons xNil at q1
    rw [bind_assoc] at q1
    refine tX_run rm1 rs1 q1 fun e2 m2 ρ2 H2 u _ ex rm2 _ rp2 bl2 hl2 q2 => ?_
    have rx := Rep.ext (t := t) (K := X.K) ex _ v bl rp
    rw [ev] at rx
    exact pk _ _ _ _ _ _ _ _ _ rm2 rx rp2 (D.bel_le hl2 _ bl) bl2 q2
def meP2 : Pr → Option Str
  | .append => some "append"
  | .remove => some "remove"
  | .index => some "index"
  | .pop1 => some "pop"
  | .popK => some "pop"
  | .update => some "update"
  | _ => none
theorem s_me2 (G : Gd t n C W X) {p : Pr} {f : Str} {o e : Expr} {xo xe : Ex} {apos cpos : Pos} (h : meP2 p = some f) (hn : noSup o = true) (hb : lineB apos cpos = true) (hs : noStar e = true) (ho : PE X o (tE t X.K W xo)) (he : PE X e (tE t X.K W xe)) :
    PE X (.Call (.Attribute o f apos) [e] [] cpos) (tE t X.K W (xMe p xo (xCons xe xNil))) := by
  cases p <;> cases h
  · exact s_me1 G rfl hn hb hs ho he
  · exact s_me1 G rfl hn hb hs ho he
  · exact s_m1 PySem.F.slot_list_pop PySem.F.type_list_pop mt_popAt pk_pop1 rfl hn hb hs ho he
  · exact s_me1 G rfl hn hb hs ho he
  · exact s_d1 PySem.F.slot_dict_update PySem.F.type_dict_update mt_update pk_update rfl hn hb hs ho he
  · exact s_d1 PySem.F.slot_dict_pop PySem.F.type_dict_pop mt_dpop pk_popK rfl hn hb hs ho he
end
end NV

set_option Elab.async false
set_option linter.all false
set_option maxRecDepth 100000
set_option maxHeartbeats 4000000
/-! NvIt: what is walked, and targets. -/
namespace NV
open PySem PySem.Spec PyProof.Rows L2

/-- as RQ, what follows may look at the evaluator's side -/
def RQd {α β : Type} (S : Srt α β) (t : Tx) (K : PySem.W.Frag) (W : XK) (ρ : Pl) (H : Hp) (n : Nat) (r : Rs α) (Q : α → Mem → Pl → β → Hp → Prop) : Prop :=
  match r with
  | .ok d m' => ∀ ρ' H' v, Ext ρ H n ρ' H' m'.len → RelM t K ρ' H' m' → S.rp t K ρ' H' d v → S.bl m'.len d → n ≤ m'.len → Q d m' ρ' v H'
  | .exc c fs m' => ∀ ρ' H' od, Ext ρ H n ρ' H' m'.len → RelM t K ρ' H' m' → RepX t K ρ' H' od fs → belFs m'.len fs → n ≤ m'.len → W (.ref (t.ca c)) od H'
  | .stuck => False
theorem RQd.to {α β : Type} {S : Srt α β} {t : Tx} {K : PySem.W.Frag} {W : XK} {ρ : Pl} {H : Hp} {n : Nat} {r : Rs α} {Q : α → Mem → Pl → β → Hp → Prop} {Q1 : β → Hp → Prop} (h : RQd S t K W ρ H n r Q)
    (k : ∀ d m1 ρ1 H1 v, r = .ok d m1 → Ext ρ H n ρ1 H1 m1.len → RelM t K ρ1 H1 m1 → S.rp t K ρ1 H1 d v → S.bl m1.len d → n ≤ m1.len → Q d m1 ρ1 v H1 → Q1 v H1) : RQ S t K W ρ H n r Q1 := by
  cases r with
  | ok d m1 => exact fun ρ1 H1 v e rm rp bl hl => k d m1 ρ1 H1 v rfl e rm rp bl hl (h ρ1 H1 v e rm rp bl hl)
  | exc c fs m' => exact h
  | stuck => exact h

/-- the walk here against the layer's -/
def ItR (t : Tx) (K : PySem.W.Frag) (it : It) (J : L2.It) (ρ : Pl) (H : Hp) (N : Nat) : Prop := ∀ ρ' H' m', ExtW ρ H N ρ' H' → RelM t K ρ' H' m' → N ≤ m'.len → ∀ i,
  (itAt it i m' = some none → J.stop i H') ∧ ∀ x, itAt it i m' = some (some x) → J.go i H' ∧ ∀ y H'', J.yld i H' y H'' → Ext ρ' H' m'.len ρ' H'' m'.len ∧ RelM t K ρ' H'' m' ∧ Rep t K ρ' H'' x y ∧ x.bel m'.len
/-- .. from a heap that a fresh object was laid into: the same -/
def tI (t : Tx) (K : PySem.W.Frag) (W : WX) (k : IK) (x : ExL) : TI := fun σ H R => ∃ ρ s m, RelM t K ρ H m ∧ RelS t K ρ H m.len s σ ∧
  RQd srL t K (WE W σ) ρ H m.len (x s m) fun ds m1 ρ1 _ H1 => ∃ it, itOf k ds m1 = some it ∧ ∀ J, ItR t K it J ρ1 H1 m1.len → R J H1

section
variable {t : Tx} {n : Nx} {C : Ct} {W : WX} {X : Cx}
theorem PI.imp {tg e : Expr} {u u' : TI} (h : PI X tg e u) (i : ∀ σ H R, u' σ H R → u σ H R) : PI X tg e u' := ⟨fun pins s σ H Q I hq => h.run pins s σ H Q I (i σ H Q hq)⟩

section
variable {K : PySem.W.Frag} {ρ : Pl} {H : Hp} {m : Mem} {N : Nat}
theorem lstOf_loc {k : Nat} {xs : List D} (rm : RelM t K ρ H m) (h : lstOf m (.loc k) = some xs) : ∃ vs, SqL K H (ρ k) vs ∧ Reps t K ρ H xs vs ∧ D.bels m.len xs := by
  obtain ⟨a, vs, e, sq, r, b⟩ := lstOf_ok (v := .ref (ρ k)) rm h (by simp only [Rep])
  cases e
  exact ⟨vs, sq, r, b⟩
theorem get_none {xs : List D} {vs : List V} {i : Nat} (r : Reps t K ρ H xs vs) (h : xs[i]? = none) : vs.length ≤ i := by
  rw [← r.length]
  exact List.getElem?_eq_none_iff.mp h
theorem itR_dyn {k : Nat} (hk : k < N) : ItR t K (.dyn k) (Itl K (ρ k)) ρ H N := by
  intro ρ' H' m' e rm hl i
  have ek : ρ' k = ρ k := e.pl k hk
  constructor
  · intro h
    simp only [itAt] at h
    split at h
    · rename_i xs g
      obtain ⟨vs, sq, r, b⟩ := lstOf_loc rm g
      rw [ek] at sq
      exact ⟨vs, sq, get_none r (Option.some.inj h)⟩
    · cases h
  · intro x h
    simp only [itAt] at h
    split at h
    · rename_i xs g
      obtain ⟨vs, sq, r, b⟩ := lstOf_loc rm g
      rw [ek] at sq
      have hx := Option.some.inj h
      obtain ⟨v, h1, h2⟩ := r.get hx
      refine ⟨⟨vs, v, sq, h1⟩, fun y H'' hy => ?_⟩
      obtain ⟨e1, hy⟩ := hy
      subst e1
      have q := hy vs sq
      rw [h1] at q
      cases q
      exact ⟨Ext.refl, rm, h2, bels_get b hx⟩
    · cases h
theorem itR_tup {a : Addr} {xs : List D} {vs : List V} (sq : SqT K H a vs) (r : Reps t K ρ H xs vs) (b : D.bels N xs) : ItR t K (.fixed xs) (Itt K a) ρ H N := by
  intro ρ' H' m' e rm hl i
  have sq' := sqT_ext e sq
  have r' := Reps.extW e xs vs b r
  constructor
  · intro h
    exact ⟨vs, sq', get_none r' (Option.some.inj h)⟩
  · intro x h
    have hx : xs[i]? = some x := Option.some.inj h
    obtain ⟨v, h1, h2⟩ := r'.get hx
    refine ⟨⟨vs, v, sq', h1⟩, fun y H'' hy => ?_⟩
    obtain ⟨e1, hy⟩ := hy
    subst e1
    have q := hy vs sq'
    rw [h1] at q
    cases q
    exact ⟨Ext.refl, rm, h2, D.bel_le hl x (bels_get b hx)⟩
theorem rngL_len : ∀ (k : Nat) (lo c : Int) (i : Nat), (rngL lo c i k).length = k
  | 0, _, _, _ => rfl
  | k + 1, lo, c, i => by
    unfold rngL
    rw [List.length_cons, rngL_len k]
theorem rngL_get : ∀ (k : Nat) (lo c : Int) (i j : Nat) (x : D), (rngL lo c i k)[j]? = some x → x = .int (lo + ((i + j : Nat) : Int) * c)
  | 0, _, _, _, _, _, h => by simp [rngL] at h
  | k + 1, lo, c, i, 0, x, h => by
    unfold rngL at h
    simp only [List.getElem?_cons_zero, Option.some.injEq] at h
    rw [← h, Nat.add_zero]
  | k + 1, lo, c, i, j + 1, x, h => by
    unfold rngL at h
    rw [List.getElem?_cons_succ] at h
    have q := rngL_get k lo c (i + 1) j x h
    rw [q]
    congr 3
    omega
theorem itR_rng {lo : Int} {k : Nat} : ItR t K (.fixed (rngL lo 1 0 k)) (Itr lo k) ρ H N := by
  intro ρ' H' m' e rm hl i
  constructor
  · intro h
    have q := List.getElem?_eq_none_iff.mp (Option.some.inj h)
    rw [rngL_len] at q
    exact q
  · intro x h
    have hx : (rngL lo 1 0 k)[i]? = some x := Option.some.inj h
    have q := (List.getElem?_eq_some_iff.mp hx).1
    rw [rngL_len] at q
    refine ⟨q, fun y H'' hy => ?_⟩
    obtain ⟨e1, hy⟩ := hy
    subst e1 hy
    have ex := rngL_get k lo 1 0 i x hx
    rw [Nat.zero_add, Int.mul_one] at ex
    subst ex
    exact ⟨Ext.refl, rm, Rep.int, bel_int⟩
theorem itR_rngC {lo c : Int} {k : Nat} : ItR t K (.fixed (rngL lo c 0 k)) (Itc lo c k) ρ H N := by
  intro ρ' H' m' e rm hl i
  constructor
  · intro h
    have q := List.getElem?_eq_none_iff.mp (Option.some.inj h)
    rw [rngL_len] at q
    exact q
  · intro x h
    have hx : (rngL lo c 0 k)[i]? = some x := Option.some.inj h
    have q := (List.getElem?_eq_some_iff.mp hx).1
    rw [rngL_len] at q
    refine ⟨q, fun y H'' hy => ?_⟩
    obtain ⟨e1, hy⟩ := hy
    subst e1 hy
    have ex := rngL_get k lo c 0 i x hx
    rw [Nat.zero_add] at ex
    subst ex
    exact ⟨Ext.refl, rm, Rep.int, bel_int⟩
/-- a new pair -/
theorem pair_new {ρ : Pl} {x y : D} {v u : V} {T : Addr} (rm : RelM t K ρ H m) (hT : H T = none) (rx : Rep t K ρ H x v) (ry : Rep t K ρ H y u) (bx : x.bel m.len) (by_ : y.bel m.len) :
    Ext ρ H m.len ρ (upd H T (.tup [v, u])) m.len ∧ RelM t K ρ (upd H T (.tup [v, u])) m ∧ Rep t K ρ (upd H T (.tup [v, u])) (.tup [x, y]) (.ref T) ∧ D.bel m.len (.tup [x, y]) := by
  have e := ext_new (ρ := ρ) (n := m.len) (o := .tup [v, u]) hT
  refine ⟨e, rm.new hT, ?_, ?_⟩
  · simp only [Rep]
    refine ⟨T, [v, u], rfl, .inl (.inl upd_same), ?_⟩
    simp only [Reps]
    exact ⟨Rep.ext e x v bx rx, Rep.ext e y u by_ ry, trivial⟩
  · simp only [D.bel, D.bels]
    exact ⟨bx, by_, trivial⟩
theorem itR_zip {a b : Nat} (ha : a < N) (hb : b < N) : ItR t K (.dyn2 a b) (Itz K (ρ a) (ρ b)) ρ H N := by
  intro ρ' H' m' e rm hl i
  have ea : ρ' a = ρ a := e.pl a ha
  have eb : ρ' b = ρ b := e.pl b hb
  simp only [itAt]
  cases g1 : lstOf m' (.loc a) with
  | none => exact ⟨fun h => (by cases h), fun x h => (by cases h)⟩
  | some xs =>
    cases g2 : lstOf m' (.loc b) with
    | none => exact ⟨fun h => (by cases h), fun x h => (by cases h)⟩
    | some ys =>
      obtain ⟨vs, sq1, r1, b1⟩ := lstOf_loc rm g1
      obtain ⟨us, sq2, r2, b2⟩ := lstOf_loc rm g2
      rw [ea] at sq1
      rw [eb] at sq2
      simp only
      cases hx : xs[i]? with
      | none => exact ⟨fun _ => ⟨vs, us, sq1, sq2, .inl (get_none r1 hx)⟩, fun x h => by cases h⟩
      | some x =>
        cases hy : ys[i]? with
        | none => exact ⟨fun _ => ⟨vs, us, sq1, sq2, .inr (get_none r2 hy)⟩, fun x h => by cases h⟩
        | some y =>
          refine ⟨fun h => (by cases h), fun z h => ?_⟩
          cases h
          obtain ⟨v, h1, h2⟩ := r1.get hx
          obtain ⟨u, h3, h4⟩ := r2.get hy
          refine ⟨⟨vs, us, v, u, sq1, sq2, h1, h3⟩, fun z H'' hz => ?_⟩
          obtain ⟨T, v', u', e1, hT, e2, q1, q2⟩ := hz
          have q1' := q1 vs sq1
          have q2' := q2 us sq2
          rw [h1] at q1'
          rw [h3] at q2'
          cases q1'
          cases q2'
          subst e1 e2
          exact pair_new rm hT h2 h4 (bels_get b1 hx) (bels_get b2 hy)
theorem zipD_get : ∀ {xs ys : List D} {i : Nat}, (zipD xs ys)[i]? = (match xs[i]?, ys[i]? with
    | some x, some y => some (.tup [x, y])
    | _, _ => none)
  | [], ys, i => by simp [zipD]
  | x :: xs, [], i => by
    simp only [zipD, List.getElem?_nil]
    split
    · rename_i h
      cases h
    · rfl
  | x :: xs, y :: ys, 0 => by simp [zipD]
  | x :: xs, y :: ys, i + 1 => by
    simp only [zipD, List.getElem?_cons_succ]
    exact zipD_get
theorem itR_zipT {a b : Addr} {xs ys : List D} {vs us : List V} (sq1 : SqT K H a vs) (sq2 : SqT K H b us) (r1 : Reps t K ρ H xs vs) (r2 : Reps t K ρ H ys us) (b1 : D.bels N xs) (b2 : D.bels N ys) : ItR t K (.fixed (zipD xs ys)) (RZ.ItzT K a b) ρ H N := by
  intro ρ' H' m' e rm hl i
  have sq1 := sqT_ext e sq1
  have sq2 := sqT_ext e sq2
  have r1 := Reps.extW e xs vs b1 r1
  have r2 := Reps.extW e ys us b2 r2
  simp only [itAt]
  rw [zipD_get]
  cases hx : xs[i]? with
  | none => exact ⟨fun _ => ⟨vs, us, sq1, sq2, .inl (get_none r1 hx)⟩, fun x h => by cases h⟩
  | some x =>
    cases hy : ys[i]? with
    | none => exact ⟨fun _ => ⟨vs, us, sq1, sq2, .inr (get_none r2 hy)⟩, fun x h => by cases h⟩
    | some y =>
      refine ⟨fun h => (by cases h), fun z h => ?_⟩
      cases h
      obtain ⟨v, h1, h2⟩ := r1.get hx
      obtain ⟨u, h3, h4⟩ := r2.get hy
      refine ⟨⟨vs, us, v, u, sq1, sq2, h1, h3⟩, fun z H'' hz => ?_⟩
      obtain ⟨T, v', u', e1, hT, e2, q1, q2⟩ := hz
      have q1' := q1 vs sq1
      have q2' := q2 us sq2
      rw [h1] at q1'
      rw [h3] at q2'
      cases q1'
      cases q2'
      subst e1 e2
      exact pair_new rm hT h2 h4 (D.bel_le hl _ (bels_get b1 hx)) (D.bel_le hl _ (bels_get b2 hy))
theorem itR_enum {a : Nat} (ha : a < N) : ItR t K (.dynE a) (Ite K (ρ a)) ρ H N := by
  intro ρ' H' m' e rm hl i
  have ea : ρ' a = ρ a := e.pl a ha
  simp only [itAt]
  cases g1 : lstOf m' (.loc a) with
  | none => exact ⟨fun h => (by cases h), fun x h => (by cases h)⟩
  | some xs =>
    obtain ⟨vs, sq1, r1, b1⟩ := lstOf_loc rm g1
    rw [ea] at sq1
    simp only
    cases hx : xs[i]? with
    | none => exact ⟨fun _ => ⟨vs, sq1, get_none r1 hx⟩, fun x h => by cases h⟩
    | some x =>
      refine ⟨fun h => (by cases h), fun z h => ?_⟩
      cases h
      obtain ⟨v, h1, h2⟩ := r1.get hx
      refine ⟨⟨vs, v, sq1, h1⟩, fun z H'' hz => ?_⟩
      obtain ⟨T, v', e1, hT, e2, q1⟩ := hz
      have q1' := q1 vs sq1
      rw [h1] at q1'
      cases q1'
      subst e1 e2
      exact pair_new rm hT (show Rep t K ρ' H' (.int (i : Nat)) (.int (i : Nat)) from Rep.int) h2 bel_int (bels_get b1 hx)
end

/-! ### the sources -/
def iSeq (K : PySem.W.Frag) (tl : TE) : TI := fun σ H R => tl σ H fun x H1 => ∃ a, x = .ref a ∧ (((∃ xs, SqL K H1 a xs) ∧ R (Itl K a) H1) ∨ ((∃ xs, SqT K H1 a xs) ∧ R (Itt K a) H1))
theorem pi_seq {tg l : Expr} {tl : TE} (hl : PE X l tl) : PI X tg l (iSeq X.K tl) := by
  refine ⟨fun pins s σ H R I h => thn (hl.run pins s σ H _ I h) fun v s1 hv => ?_⟩
  obtain ⟨x, H1, I1, r1, a, rfl, q⟩ := hv
  have ev : v = .ref a := r1
  subst ev
  have fresh : ∀ b ∈ [s1.heap.objs.size], FpOk X pins H1 b := fun b hb => by
    have eb : b = s1.heap.objs.size := List.mem_singleton.mp hb
    rw [eb]
    exact I1.fpOk (Nat.le_refl _) (I1.hok.fresh (Nat.le_refl _))
  rcases q with ⟨⟨xs, hq⟩, q⟩ | ⟨⟨xs, hq⟩, q⟩
  · obtain ⟨its, _, p, _⟩ := I1.list hq
    exact wpAny_pyIter_list p.isList ⟨_, _, _, _, H1, rfl, I1.kept (t' := s1.toks) fun b o e => Heap.get?_push_of_some _ e, turn_list a _, ⟨_, Heap.get?_push_size _ rfl, rfl, rfl⟩, fresh, q⟩
  · obtain ⟨its, _, p, _⟩ := I1.tuple hq
    exact wpAny_pyIter_tuple p ⟨_, _, _, _, H1, rfl, I1.kept (t' := s1.toks) fun b o e => Heap.get?_push_of_some _ e, turn_tuple a _, ⟨_, Heap.get?_push_size _ rfl, rfl, rfl⟩, fresh, q⟩
end
end NV

set_option Elab.async false
set_option linter.all false
set_option maxRecDepth 100000
set_option maxHeartbeats 4000000
/-! NvIt2: the sources of loops, targets. -/
namespace NV
open PySem PySem.Spec PyProof.Rows L2
section
variable {t : Tx} {n : Nx} {C : Ct} {W : WX} {X : Cx}
theorem RQd.one {K : PySem.W.Frag} {Wx : XK} {ρ : Pl} {H : Hp} {k : Nat} {xe : Ex} {s : Sl} {m : Mem} {Q : List D → Mem → Pl → List V → Hp → Prop} (h : RQd srL t K Wx ρ H k (xCons xe xNil s m) Q) : RQd srD t K Wx ρ H k (xe s m) fun d m1 ρ1 v H1 => Q [d] m1 ρ1 [v] H1 := by
  unfold xCons xNil at h
  cases e : xe s m with
  | ok d m1 =>
    rw [e] at h
    exact fun ρ1 H1 v ex rm rp bl hl => h ρ1 H1 [v] ex rm (by show Reps _ _ _ _ _ _; simp only [Reps]; exact ⟨rp, trivial⟩) (by show D.bels _ _; simp only [D.bels]; exact ⟨bl, trivial⟩) hl
  | exc c fs m' => rw [e] at h; exact h
  | stuck => rw [e] at h; exact h
theorem it_seq {ds : List D} {m : Mem} {it : It} (h : itSeq m ds = some it) : (∃ xs, ds = [.tup xs] ∧ it = .fixed xs) ∨ ∃ a, ds = [.loc a] ∧ isLst m a = true ∧ it = .dyn a := by
  unfold itSeq at h
  split at h
  · cases h
    exact .inl ⟨_, rfl, rfl⟩
  · split at h
    · cases h
      exact .inr ⟨_, rfl, by assumption, rfl⟩
    · cases h
  · cases h
theorem lst_sq {K : PySem.W.Frag} {ρ : Pl} {H : Hp} {m : Mem} {k : Nat} (rm : RelM t K ρ H m) (h : isLst m k = true) : ∃ xs, SqL K H (ρ k) xs := by
  rcases kind_lst rm h with ⟨_, z⟩ | ⟨z, _⟩ | ⟨z, _⟩ | ⟨z, _⟩
  · exact z
  · exact absurd z (by decide)
  · exact absurd z (by decide)
  · exact absurd z (by decide)
theorem s_seq {tg e : Expr} {xe : Ex} (he : PE X e (tE t X.K W xe)) : PI X tg e (tI t X.K W .seq (xCons xe xNil)) := by
  refine PI.imp (pi_seq he) fun σ H R q => ?_
  obtain ⟨ρ, s, m, rm, rs, q⟩ := q
  refine ⟨ρ, s, m, rm, rs, RQd.to (RQd.one q) fun d m1 ρ1 H1 v _ _ rm1 rp bl _ q1 => ?_⟩
  obtain ⟨it, h, k⟩ := q1
  rcases it_seq (show itSeq m1 [d] = some it from h) with ⟨xs, e1, rfl⟩ | ⟨j, e1, hj, rfl⟩
  · cases e1
    obtain ⟨a, vs, e1, sq, r⟩ := rep_tup (t := t) (K := X.K) (ρ := ρ1) (H := H1) rp
    exact ⟨a, e1, .inr ⟨⟨vs, sq⟩, k _ (itR_tup sq r (bel_tup bl))⟩⟩
  · cases e1
    have e1 := rep_loc (t := t) (K := X.K) (ρ := ρ1) (H := H1) rp
    have bj : j < m1.len := by simpa only [srD, D.bel] using bl
    exact ⟨ρ1 j, e1, .inl ⟨lst_sq rm1 hj, k _ (itR_dyn bj)⟩⟩
theorem inR_of {i : Int} (h : inR i = true) : -(2 ^ 62) ≤ i ∧ i < 2 ^ 62 := of_decide_eq_true h
section
variable {K : PySem.W.Frag} {ρ : Pl} {H : Hp}
theorem reps_ints1 {i : Int} {vs : List V} (h : Reps t K ρ H [.int i] vs) : vs = [.int i] := by
  obtain ⟨v, e, r⟩ := reps_one h
  rw [e, rep_int r]
theorem reps_ints2 {i j : Int} {vs : List V} (h : Reps t K ρ H [.int i, .int j] vs) : vs = [.int i, .int j] := by
  obtain ⟨v, u, e, r, r2⟩ := reps_two h
  rw [e, rep_int r, rep_int r2]
theorem reps_ints3 {i j k : Int} {vs : List V} (h : Reps t K ρ H [.int i, .int j, .int k] vs) : vs = [.int i, .int j, .int k] := by
  obtain ⟨v, u, w, e, r, r2, r3⟩ := reps_three h
  rw [e, rep_int r, rep_int r2, rep_int r3]
theorem it_r1 {ds : List D} {it : It} (h : itR1 ds = some it) : ∃ j : Int, ds = [.int j] ∧ inR j = true ∧ it = .fixed (rngL 0 1 0 j.toNat) := by
  unfold itR1 at h
  split at h
  · split at h
    · cases h
      exact ⟨_, rfl, by assumption, rfl⟩
    · cases h
  · cases h
theorem it_r2 {ds : List D} {it : It} (h : itR2 ds = some it) : ∃ i j : Int, ds = [.int i, .int j] ∧ inR i = true ∧ inR j = true ∧ it = .fixed (rngL i 1 0 (j - i).toNat) := by
  unfold itR2 at h
  split at h
  · split at h
    · rename_i hb
      rw [Bool.and_eq_true] at hb
      cases h
      exact ⟨_, _, rfl, hb.1, hb.2, rfl⟩
    · cases h
  · cases h
theorem it_r3 {ds : List D} {it : It} (h : itR3 ds = some it) : ∃ i j : Int, ds = [.int i, .int j, .int (-1)] ∧ inR i = true ∧ inR j = true ∧ it = .fixed (rngL i (-1) 0 (i - j).toNat) := by
  unfold itR3 at h
  split at h
  · split at h
    · rename_i hb
      rw [Bool.and_eq_true, Bool.and_eq_true] at hb
      cases h
      exact ⟨_, _, by rw [of_decide_eq_true hb.1], hb.2.1, hb.2.2, rfl⟩
    · cases h
  · cases h
theorem it_zip {ds : List D} {m : Mem} {it : It} (h : itZip m ds = some it) : (∃ xs ys, ds = [.tup xs, .tup ys] ∧ it = .fixed (zipD xs ys)) ∨ ∃ a b, ds = [.loc a, .loc b] ∧ isLst m a = true ∧ isLst m b = true ∧ it = .dyn2 a b := by
  unfold itZip at h
  split at h
  · cases h
    exact .inl ⟨_, _, rfl, rfl⟩
  · split at h
    · rename_i hb
      rw [Bool.and_eq_true] at hb
      cases h
      exact .inr ⟨_, _, rfl, hb.1, hb.2, rfl⟩
    · cases h
  · cases h
theorem it_enum {ds : List D} {m : Mem} {it : It} (h : itEnum m ds = some it) : ∃ a, ds = [.loc a] ∧ isLst m a = true ∧ it = .dynE a := by
  unfold itEnum at h
  split at h
  · split at h
    · cases h
      exact ⟨_, rfl, by assumption, rfl⟩
    · cases h
  · cases h
end
theorem tI_tA {k : IK} {x : ExL} {σ : L2.St} {H : Hp} {R : L2.It → Hp → Prop} {Q : List V → Hp → Prop} (q : tI t X.K W k x σ H R)
    (h : ∀ ds m1 ρ1 H1 vs it, RelM t X.K ρ1 H1 m1 → Reps t X.K ρ1 H1 ds vs → D.bels m1.len ds → itOf k ds m1 = some it → (∀ J, ItR t X.K it J ρ1 H1 m1.len → R J H1) → Q vs H1) : tA t X.K W x σ H Q := by
  obtain ⟨ρ, s, m, rm, rs, q⟩ := q
  exact ⟨ρ, s, m, rm, rs, RQd.to q fun d m1 ρ1 H1 v _ _ rm1 rp bl _ ⟨it, e, k⟩ => h d m1 ρ1 H1 v it rm1 rp bl e k⟩
theorem s_rng1 (G : Gd t n C W X) {tg a : Expr} {xs : ExL} {p pos : Pos} (hg : glB X.env.scope "range" = true) (hs : noStar a = true) (ha : PA X [a] (tA t X.K W xs)) : PI X tg (.Call (.Name "range" p) [a] [] pos) (tI t X.K W .rng1 xs) := by
  refine PI.imp (pi_range1 (gl_of hg) (G.bi _ (by decide)) ha (star_of hs _ _)) fun σ H R q => tI_tA q fun ds m1 ρ1 H1 vs it rm r b e k => ?_
  obtain ⟨j, rfl, hj, rfl⟩ := it_r1 e
  have z := inR_of hj
  exact ⟨j, reps_ints1 r, z.1, z.2, k _ itR_rng⟩
theorem s_rng2 (G : Gd t n C W X) {tg a b : Expr} {xs : ExL} {p pos : Pos} (hg : glB X.env.scope "range" = true) (hs : noStar a = true) (hs2 : noStar b = true) (ha : PA X [a, b] (tA t X.K W xs)) : PI X tg (.Call (.Name "range" p) [a, b] [] pos) (tI t X.K W .rng2 xs) := by
  refine PI.imp (pi_range2 (gl_of hg) (G.bi _ (by decide)) ha (by rw [star_of hs, star_of hs2]; rfl) (star_of hs2 _ _)) fun σ H R q => tI_tA q fun ds m1 ρ1 H1 vs it rm r b e k => ?_
  obtain ⟨i, j, rfl, hi, hj, rfl⟩ := it_r2 e
  have z := inR_of hi
  have z2 := inR_of hj
  exact ⟨i, j, reps_ints2 r, ⟨z.1, z.2, z2.1, z2.2⟩, k _ itR_rng⟩
theorem s_rng3 (G : Gd t n C W X) {tg a b c : Expr} {xs : ExL} {p pos : Pos} (hg : glB X.env.scope "range" = true) (hs : noStar a = true) (hs2 : noStar b = true) (hs3 : noStar c = true) (ha : PA X [a, b, c] (tA t X.K W xs)) :
    PI X tg (.Call (.Name "range" p) [a, b, c] [] pos) (tI t X.K W .rng3 xs) := by
  refine PI.imp (pi_range3 (gl_of hg) (G.bi _ (by decide)) ha (star_of hs _ _) (noAny (by simp [hs2, hs3]) _ _)) fun σ H R q => tI_tA q fun ds m1 ρ1 H1 vs it rm r b e k => ?_
  obtain ⟨i, j, rfl, hi, hj, rfl⟩ := it_r3 e
  have z := inR_of hi
  have z2 := inR_of hj
  exact ⟨i, j, -1, _, reps_ints3 r, RgC.neg z.1 z.2 z2.1 z2.2, k _ itR_rngC⟩
theorem s_zip (G : Gd t n C W X) {elts : List Expr} {kk : Nat} {tp : Pos} {a b : Expr} {xs : ExL} {p pos : Pos} (hg : glB X.env.scope "zip" = true) (hs : noStar a = true) (hs2 : noStar b = true) (ha : PA X [a, b] (tA t X.K W xs)) :
    PI X (.Tuple elts kk tp) (.Call (.Name "zip" p) [a, b] [] pos) (tI t X.K W .zip xs) := by
  refine PI.imp (RZ.pi_zipA (gl_of hg) (G.bi _ (by decide)) ha (star_of hs _ _) (noAny (by simp [hs2]) _ _)) fun σ H R q => tI_tA q fun ds m1 ρ1 H1 vs it rm r b e k => ?_
  rcases it_zip e with ⟨xs, ys, rfl, rfl⟩ | ⟨a, b', rfl, h1, h2, rfl⟩
  · obtain ⟨v, u, rfl, r1, r2⟩ := reps_two r
    obtain ⟨a, vs, rfl, sq1, q1⟩ := rep_tup r1
    obtain ⟨a2, us, rfl, sq2, q2⟩ := rep_tup r2
    have b' : D.bel m1.len (.tup xs) ∧ D.bel m1.len (.tup ys) := by simp only [D.bels] at b; exact ⟨b.1, b.2.1⟩
    exact ⟨a, a2, vs, us, rfl, .inr ⟨sq1, sq2, k _ (itR_zipT sq1 sq2 q1 q2 (bel_tup b'.1) (bel_tup b'.2))⟩⟩
  · obtain ⟨v, u, rfl, r1, r2⟩ := reps_two r
    have b' : a < m1.len ∧ b' < m1.len := by simp only [D.bels, D.bel] at b; exact ⟨b.1, b.2.1⟩
    obtain ⟨vs, sq1⟩ := lst_sq rm h1
    obtain ⟨us, sq2⟩ := lst_sq rm h2
    rw [rep_loc r1, rep_loc r2]
    exact ⟨_, _, vs, us, rfl, .inl ⟨sq1, sq2, k _ (itR_zip b'.1 b'.2)⟩⟩
theorem s_enum (G : Gd t n C W X) {elts : List Expr} {kk : Nat} {tp : Pos} {a : Expr} {xs : ExL} {p pos : Pos} (hg : glB X.env.scope "enumerate" = true) (hs : noStar a = true) (ha : PA X [a] (tA t X.K W xs)) :
    PI X (.Tuple elts kk tp) (.Call (.Name "enumerate" p) [a] [] pos) (tI t X.K W .enum xs) := by
  refine PI.imp (pi_enum (gl_of hg) (G.bi _ (by decide)) ha (star_of hs _ _)) fun σ H R q => tI_tA q fun ds m1 ρ1 H1 vs it rm r b e k => ?_
  obtain ⟨a, rfl, h1, rfl⟩ := it_enum e
  obtain ⟨v, rfl, r1⟩ := reps_one r
  have b' : a < m1.len := by simp only [D.bels, D.bel] at b; exact b.1
  obtain ⟨vs, sq1⟩ := lst_sq rm h1
  rw [rep_loc r1]
  exact ⟨_, vs, rfl, sq1, k _ (itR_enum b')⟩

/-! ### targets -/
mutual
def TG.names : TG → List Nat
  | .nm i => [i]
  | .tp ts => TG.namesL ts
def TG.namesL : List TG → List Nat
  | [] => []
  | g :: gs => g.names ++ TG.namesL gs
end
/-- only those slots differ -/
def SameOut (is : List Nat) (σ σ' : L2.St) : Prop := σ'.length = σ.length ∧ ∀ i, i ∉ is → σ'[i]? = σ[i]?
theorem SameOut.wiped {is vs : List Nat} {σ σ' : L2.St} (h : SameOut is σ σ') (hi : ∀ i ∈ is, i ∈ vs) : L2.wipe σ' vs = L2.wipe σ vs := by
  have at_ : ∀ (vs : List Nat) (τ : L2.St) (i : Nat), (L2.wipe τ vs)[i]? = if i ∈ vs ∧ i < τ.length then some none else τ[i]? := by
    intro vs
    induction vs with
    | nil => intro τ i; simp [L2.wipe]
    | cons v vs ih =>
      intro τ i
      unfold L2.wipe
      rw [List.getElem?_set]
      by_cases e : v = i
      · subst e
        by_cases hl : v < τ.length
        · simp [wipe_length, hl]
        · rw [if_pos rfl, wipe_length, if_neg hl, if_neg (by simp [hl])]
          rw [List.getElem?_eq_none (by omega)]
      · rw [if_neg e, ih]
        have : (i ∈ v :: vs) ↔ i ∈ vs := by simp [Ne.symm e]
        simp only [this]
  apply List.ext_getElem?
  intro i
  rw [at_, at_, h.1]
  by_cases c : i ∈ vs ∧ i < σ.length
  · rw [if_pos c, if_pos c]
  · rw [if_neg c, if_neg c]
    by_cases d : i ∈ is
    · have hv := hi i d
      have hl : ¬ i < σ.length := fun z => c ⟨hv, z⟩
      rw [List.getElem?_eq_none (by rw [h.1]; omega), List.getElem?_eq_none (by omega)]
    · exact h.2 i d
theorem SameOut.refl {is : List Nat} {σ : L2.St} : SameOut is σ σ := ⟨rfl, fun _ _ => rfl⟩
theorem SameOut.trans {is js : List Nat} {σ σ1 σ2 : L2.St} (a : SameOut is σ σ1) (b : SameOut js σ1 σ2) : SameOut (is ++ js) σ σ2 :=
  ⟨b.1.trans a.1, fun i h => (b.2 i fun z => h (List.mem_append_right _ z)).trans (a.2 i fun z => h (List.mem_append_left _ z))⟩
/-- a store, read -/
def tG (t : Tx) (K : PySem.W.Frag) (g : TG) : L2.TG := fun v σ H Q => ∃ ρ s d k s', RelS t K ρ H k s σ ∧ Rep t K ρ H d v ∧ d.bel k ∧ asgT g d s = some s' ∧ ∀ σ', RelS t K ρ H k s' σ' → SameOut g.names σ σ' → Q σ' H
def tGs (t : Tx) (K : PySem.W.Frag) (gs : List TG) : TGs := fun vs σ H Q => ∃ ρ s ds k s', RelS t K ρ H k s σ ∧ Reps t K ρ H ds vs ∧ D.bels k ds ∧ asgTs gs ds s = some s' ∧ ∀ σ', RelS t K ρ H k s' σ' → SameOut (TG.namesL gs) σ σ' → Q σ' H
theorem RelS.set {K : PySem.W.Frag} {ρ : Pl} {H : Hp} {k i : Nat} {s : Sl} {σ : L2.St} {d : D} {v : V} (rs : RelS t K ρ H k s σ) (r : Rep t K ρ H d v) (b : d.bel k) : RelS t K ρ H k (setS s i d) (σ.set i (some v)) := by
  refine ⟨by unfold setS; rw [List.length_set, List.length_set]; exact rs.len, fun j e h => ?_⟩
  unfold setS at h
  rw [List.getElem?_set] at h
  by_cases ij : i = j
  · subst ij
    rw [if_pos rfl] at h
    by_cases hl : i < s.length
    · rw [if_pos hl] at h
      cases h
      exact ⟨v, List.getElem?_set_self (by rw [rs.len]; exact hl), r, b⟩
    · rw [if_neg hl] at h
      cases h
  · rw [if_neg ij] at h
    rw [List.getElem?_set_ne ij]
    exact rs.slot j e h
theorem RelS.wipe {K : PySem.W.Frag} {ρ : Pl} {H : Hp} {k : Nat} : ∀ (vs : List Nat) {s : Sl} {σ : L2.St}, RelS t K ρ H k s σ → RelS t K ρ H k (wipeS vs s) (L2.wipe σ vs)
  | [], _, _, rs => rs
  | v :: vs, s, σ, rs => by
    have q := RelS.wipe vs rs
    unfold wipeS L2.wipe
    refine ⟨by rw [List.length_set, List.length_set]; exact q.len, fun j e h => ?_⟩
    rw [List.getElem?_set] at h
    by_cases ij : v = j
    · rw [if_pos ij] at h
      split at h <;> cases h
    · rw [if_neg ij] at h
      rw [List.getElem?_set_ne ij]
      exact q.slot j e h
mutual
def chkG (N : List Str) (sc : Scope) (fnB : Str → Bool) : TG → Expr → Bool
  | .nm i, x => (match x with
    | .Name y _ => decide (N[i]? = some y) && (match sc.names.lookup y with
      | some .local => true
      | some .cell => fnB y
      | _ => false)
    | _ => false)
  | .tp gs, x => (match x with
    | .Tuple es _ _ => chkGs N sc fnB gs es
    | _ => false)
def chkGs (N : List Str) (sc : Scope) (fnB : Str → Bool) : List TG → List Expr → Bool
  | [], es => (match es with
    | [] => true
    | _ => false)
  | g :: gs, es => (match es with
    | e :: es => noStar e && (chkG N sc fnB g e && chkGs N sc fnB gs es)
    | _ => false)
end
theorem assignEach_cons {e : Expr} (h : noStar e = true) (es : List Expr) (env : Env) : assignEach (e :: es) env = (false, assign e env) :: assignEach es env := by
  cases e <;> first | rfl | cases h
theorem chkGs_len {N : List Str} {sc : Scope} {fnB : Str → Bool} : ∀ {gs : List TG} {es : List Expr} (env : Env), chkGs N sc fnB gs es = true → (assignEach es env).length = gs.length ∧ (assignEach es env).findIdx? (·.1) = none
  | [], [], _, _ => ⟨rfl, rfl⟩
  | g :: gs, e :: es, env, h => by
    simp only [chkGs, Bool.and_eq_true] at h
    obtain ⟨h1, h2⟩ := chkGs_len env h.2.2
    rw [assignEach_cons h.1]
    refine ⟨by rw [List.length_cons, List.length_cons, h1], ?_⟩
    rw [List.findIdx?_cons, h2]
    rfl
  | [], _ :: _, _, h => by simp only [chkGs] at h; cases h
  | _ :: _, [], _, h => by simp only [chkGs] at h; cases h
theorem asgTs_len : ∀ {gs : List TG} {ds : List D} {s s' : Sl}, asgTs gs ds s = some s' → ds.length = gs.length
  | [], [], _, _, _ => rfl
  | g :: gs, d :: ds, s, s', h => by
    simp only [asgTs] at h
    split at h
    · rw [List.length_cons, List.length_cons, asgTs_len h]
    · cases h
  | [], _ :: _, _, _, h => by simp only [asgTs] at h; cases h
  | _ :: _, [], _, _, h => by simp only [asgTs] at h; cases h
mutual
theorem s_tg (hN : X.N.Nodup) (hc : X.calm = true) {fnB : Str → Bool} (hf : ∀ x, fnB x = true → X.fn x = true) : ∀ (g : TG) (e : Expr), chkG X.N X.env.scope fnB g e = true → PG X e (tG t X.K g)
  | .nm i, e, h => by
    cases e <;> simp only [chkG] at h <;> try (cases h; done)
    rename_i y pos
    rw [Bool.and_eq_true] at h
    obtain ⟨h1, h2⟩ := h
    have hi := of_decide_eq_true h1
    have hl : Loc X.env.scope y ∧ (X.fn y = true ∨ X.env.scope.names.lookup y = some .local) := by
      split at h2
      · rename_i q
        exact ⟨.inl q, .inr q⟩
      · rename_i q
        exact ⟨.inr q, .inl (hf y h2)⟩
      · cases h2
    refine ⟨fun pins s σ H v u Q I r q => (pg_name (pos := pos) hN hi hl.1 hl.2).run pins s σ H v u Q I r ?_⟩
    obtain ⟨ρ, sl, d, k, s', rs, rp, bl, ha, kq⟩ := q
    simp only [asgT] at ha
    cases ha
    refine kq _ (rs.set rp bl) ⟨List.length_set .., fun j hj => ?_⟩
    rw [List.getElem?_set_ne]
    intro z
    exact hj (by simp [TG.names, z])
  | .tp gs, e, h => by
    cases e <;> simp only [chkG] at h <;> try (cases h; done)
    rename_i es kk pos
    obtain ⟨z1, z2⟩ := chkGs_len X.env h
    refine ⟨fun pins s σ H v u Q I r q => (pg_tup (pos := pos) (k := kk) hc (s_tgs hN hc hf gs es h) z1 z2).run pins s σ H v u Q I r ?_⟩
    obtain ⟨ρ, sl, d, k, s', rs, rp, bl, ha, kq⟩ := q
    cases d with
    | tup xs =>
      simp only [asgT] at ha
      obtain ⟨a, vs, e1, sq, rps⟩ := rep_tup rp
      exact ⟨a, vs, e1, sq, by rw [← rps.length]; exact asgTs_len ha, ρ, sl, xs, k, s', rs, rps, bel_tup bl, ha, fun σ' rs' so => kq σ' rs' (by simpa only [TG.names] using so)⟩
    | _ => simp only [asgT] at ha; cases ha
theorem s_tgs (hN : X.N.Nodup) (hc : X.calm = true) {fnB : Str → Bool} (hf : ∀ x, fnB x = true → X.fn x = true) : ∀ (gs : List TG) (es : List Expr), chkGs X.N X.env.scope fnB gs es = true → PGs X es (tGs t X.K gs)
  | [], [], h => by
    refine ⟨fun pins s σ H vs us Q I r q => pgs_nil.run pins s σ H vs us Q I r ?_⟩
    obtain ⟨ρ, sl, ds, k, s', rs, rp, bl, ha, kq⟩ := q
    have e1 := asgTs_len ha
    have e2 : ds = [] := List.eq_nil_of_length_eq_zero e1
    subst e2
    simp only [asgTs] at ha
    cases ha
    have hv : vs = [] := List.eq_nil_of_length_eq_zero (by rw [← rp.length]; rfl)
    exact ⟨hv, kq σ rs .refl⟩
  | g :: gs, e :: es, h => by
    simp only [chkGs, Bool.and_eq_true] at h
    refine ⟨fun pins s σ H vs us Q I r q => (pgs_cons (s_tg hN hc hf g e h.2.1) (s_tgs hN hc hf gs es h.2.2) (by rw [assignEach_cons h.1]; rfl)).run pins s σ H vs us Q I r ?_⟩
    obtain ⟨ρ, sl, ds, k, s', rs, rp, bl, ha, kq⟩ := q
    cases ds with
    | nil => simp only [asgTs] at ha; cases ha
    | cons d ds =>
      cases vs with
      | nil => simp only [Reps] at rp
      | cons v vs =>
        simp only [Reps] at rp
        simp only [D.bels] at bl
        simp only [asgTs] at ha
        cases e1 : asgT g d sl with
        | none => simp only [e1] at ha; cases ha
        | some s1 =>
          simp only [e1] at ha
          exact ⟨v, vs, rfl, ρ, sl, d, k, s1, rs, rp.1, bl.1, e1, fun σ1 rs1 so1 => ⟨ρ, s1, ds, k, s', rs1, rp.2, bl.2, ha, fun σ2 rs2 so2 => kq σ2 rs2 (by simpa only [TG.namesL] using so1.trans so2)⟩⟩
  | [], _ :: _, h => by simp only [chkGs] at h; cases h
  | _ :: _, [], h => by simp only [chkGs] at h; cases h
end
end
end NV

set_option Elab.async false
set_option linter.all false
set_option maxRecDepth 100000
set_option maxHeartbeats 4000000
/-! NvLc: list comprehensions. -/
namespace NV
open PySem PySem.Spec PyProof.Rows L2

abbrev W0 : WX := fun _ _ _ _ => False
section
variable {t : Tx} {n : Nx} {C : Ct} {W : WX} {X : Cx}
theorem no_place {K : PySem.W.Frag} {ρ : Pl} {H : Hp} {m : Mem} (rm : RelM t K ρ H m) {a : Addr} (h : H a = none) : ∀ k, k < m.len → ρ k ≠ a := fun k hk e => by
  cases g : m.get k with
  | none => exact absurd (List.getElem?_eq_none_iff.mp g) (Nat.not_le.mpr hk)
  | some o =>
    obtain ⟨x, hx⟩ := rm.tracked k o g rfl
    rw [e, h] at hx
    cases hx
theorem len_cln {m m' : Mem} : (cln m m').len ≤ m'.len := by
  unfold cln
  split
  · unfold Mem.take Mem.len
    simp only [List.length_take]
    exact Nat.min_le_right _ _
  · exact Nat.le_refl _
theorem RQ.okI {α β : Type} {S : Srt α β} {K : PySem.W.Frag} {Wx : XK} {ρ : Pl} {H : Hp} {k : Nat} {r : Rs α} {d : α} {m1 : Mem} {Q : β → Hp → Prop} (h : r = .ok d m1)
    (kk : ∀ ρ1 H1 v, Ext ρ H k ρ1 H1 m1.len → RelM t K ρ1 H1 m1 → S.rp t K ρ1 H1 d v → S.bl m1.len d → k ≤ m1.len → Q v H1) : RQ S t K Wx ρ H k r Q := by
  subst h
  exact kk
theorem noexc_ok {α β : Type} {r : Rs α} {f : α → Mem → Rs β} {y : β} {m : Mem} (h : r.noexc.bind f = .ok y m) : ∃ a m1, r = .ok a m1 ∧ f a m1 = .ok y m := by
  cases r with
  | ok a m1 => exact ⟨a, m1, rfl, h⟩
  | exc c fs m' => cases h
  | stuck => cases h
theorem bind_ok {α β : Type} {r : Rs α} {f : α → Mem → Rs β} {y : β} {m : Mem} (h : r.bind f = .ok y m) : ∃ a m1, r = .ok a m1 ∧ f a m1 = .ok y m := by
  cases r with
  | ok a m1 => exact ⟨a, m1, rfl, h⟩
  | exc c fs m' => cases h
  | stuck => cases h
theorem RQ.noexc {α : Type} {K : PySem.W.Frag} {Wx : XK} {ρ : Pl} {H : Hp} {k : Nat} {r : Rs α} {f : α → Mem → Rs D} {Q : VK} (h : RQ srD t K Wx ρ H k (r.noexc.bind f) Q) : ∃ a m1, r = .ok a m1 ∧ RQ srD t K Wx ρ H k (f a m1) Q := by
  cases r with
  | ok a m1 => exact ⟨a, m1, rfl, h⟩
  | exc c fs m' => exact False.elim h
  | stuck => exact False.elim h
theorem wipe_other {vs : List Nat} {σ : L2.St} {i : Nat} (h : i ∉ vs) : (L2.wipe σ vs)[i]? = σ[i]? := by
  induction vs with
  | nil => rfl
  | cons v vs ih =>
    unfold L2.wipe
    rw [List.getElem?_set_ne (fun z => h (by simp [z]))]
    exact ih fun z => h (List.mem_cons_of_mem _ z)
theorem wipe_wipe {vs : List Nat} {σ : L2.St} : L2.wipe (L2.wipe σ vs) vs = L2.wipe σ vs := SameOut.wiped (is := vs) ⟨wipe_length _ _, fun _ h => wipe_other h⟩ fun _ h => h
/-- the context of a block of a body of the text -/
theorem LamD.blk {fnm : List Str} {sp : Nat → Sp} {g : Addr} {l : (Mem → Rs D) → Mem → Rs D} (h : LamD t X fnm sp g l) {s : Shared} {H : Hp} {scope : Scope} {cenv : Env} {fp : List Addr} (h1 : cenv.code = X.env.code) (h2 : cenv.qual = X.env.qual) : LamD t (X.blk s H scope cenv fp) fnm sp g l := by
  unfold LamD
  show ∃ c P lv fd ps, (∀ k x, fnm[k]? = some x → ∃ fd ps, Binds X.K fd ps [] ∧ FnG X.prog X.w X.K X.mg X.base lv (t.fa k) fd ps (sp k)) ∧ Room (lv + 3) X.A ∧ cenv.code = .ref c ∧ LamX.TabB X.base X.mg c P ∧ (P, cenv.qual ++ "<lambda>") ∈ t.tbs ∧ (∀ p ∈ t.tbs, p.1 = P → p.2 = cenv.qual ++ "<lambda>") ∧ Binds X.K fd ps [] ∧ LmG t X.prog X.w X.K X.mg X.base lv g fd ps l
  rw [h1, h2]
  exact h
theorem Gd.blk (G : Gd t n C W X) (s : Shared) (H : Hp) (scope : Scope) (cenv : Env) (fp : List Addr) (h1 : cenv.code = X.env.code := by rfl) (h2 : cenv.qual = X.env.qual := by rfl) : Gd t n C W0 (X.blk s H scope cenv fp) :=
  ⟨G.N, G.calm, takes_none5, G.gu, G.un, G.bi, G.glo, G.fns, G.fng, G.atn, G.fok, G.mth, G.ini, fun k x hx => (G.lam k x hx).imp id fun z => z.blk h1 h2⟩

/-! ### the turns of a comprehension -/
def okK (it : It) (i k : Nat) : Prop := match it with
  | .fixed xs => k = xs.length - i
  | _ => True
def lcAt (g : D → Mem → Rs (Option D)) (it : It) (i k : Nat) (m : Mem) : Rs (List D) := match it with
  | .fixed xs => lcF g (xs.drop i) m
  | it => lcI g it k i m
def consO : Option D → List D → List D
  | some d, ds => d :: ds
  | none, ds => ds
theorem lcAt_step (g : D → Mem → Rs (Option D)) (it : It) (i k : Nat) (m : Mem) (h : okK it i k) : (itAt it i m = some none ∧ lcAt g it i k m = .ok [] m) ∨
    (∃ x, itAt it i m = some (some x) ∧ ∃ k', k' < k ∧ okK it (i + 1) k' ∧ lcAt g it i k m = (g x m).bind fun o m1 => (lcAt g it (i + 1) k' m1).bind fun ds m2 => .ok (consO o ds) m2) ∨ lcAt g it i k m = .stuck := by
  cases it with
  | fixed xs =>
    have hk : k = xs.length - i := h
    cases e : xs[i]? with
    | none =>
      refine .inl ⟨by simp only [itAt, e], ?_⟩
      show lcF g (xs.drop i) m = _
      rw [List.drop_eq_nil_of_le (List.getElem?_eq_none_iff.mp e)]
      rfl
    | some x =>
      have hl := (List.getElem?_eq_some_iff.mp e).1
      refine .inr (.inl ⟨x, by simp only [itAt, e], k - 1, by omega, by show k - 1 = _; omega, ?_⟩)
      show lcF g (xs.drop i) m = _
      rw [List.drop_eq_getElem_cons hl]
      have ex : xs[i] = x := (List.getElem?_eq_some_iff.mp e).2
      rw [ex]
      simp only [lcF]
      congr 1
      funext o m1
      show _ = (lcF g (xs.drop (i + 1)) m1).bind _
      congr 1
      funext ds m2
      cases o <;> rfl
  | dyn a =>
    cases k with
    | zero => exact .inr (.inr rfl)
    | succ k =>
      show _ ∨ _ ∨ lcI g _ (k + 1) i m = _
      cases e : itAt (.dyn a) i m with
      | none => exact .inr (.inr (by simp only [lcI, e]))
      | some o =>
        cases o with
        | none => exact .inl ⟨rfl, by show lcI g _ (k + 1) i m = _; simp only [lcI, e]⟩
        | some x => exact .inr (.inl ⟨x, rfl, k, Nat.lt_succ_self k, trivial, by
            show lcI g _ (k + 1) i m = _
            simp only [lcI, e]
            congr 1
            funext o m1
            show _ = (lcI g _ k (i + 1) m1).bind _
            congr 1
            funext ds m2
            cases o <;> rfl⟩)
  | dyn2 a b =>
    cases k with
    | zero => exact .inr (.inr rfl)
    | succ k =>
      show _ ∨ _ ∨ lcI g _ (k + 1) i m = _
      cases e : itAt (.dyn2 a b) i m with
      | none => exact .inr (.inr (by simp only [lcI, e]))
      | some o =>
        cases o with
        | none => exact .inl ⟨rfl, by show lcI g _ (k + 1) i m = _; simp only [lcI, e]⟩
        | some x => exact .inr (.inl ⟨x, rfl, k, Nat.lt_succ_self k, trivial, by
            show lcI g _ (k + 1) i m = _
            simp only [lcI, e]
            congr 1
            funext o m1
            show _ = (lcI g _ k (i + 1) m1).bind _
            congr 1
            funext ds m2
            cases o <;> rfl⟩)
  | dynE a =>
    cases k with
    | zero => exact .inr (.inr rfl)
    | succ k =>
      show _ ∨ _ ∨ lcI g _ (k + 1) i m = _
      cases e : itAt (.dynE a) i m with
      | none => exact .inr (.inr (by simp only [lcI, e]))
      | some o =>
        cases o with
        | none => exact .inl ⟨rfl, by show lcI g _ (k + 1) i m = _; simp only [lcI, e]⟩
        | some x => exact .inr (.inl ⟨x, rfl, k, Nat.lt_succ_self k, trivial, by
            show lcI g _ (k + 1) i m = _
            simp only [lcI, e]
            congr 1
            funext o m1
            show _ = (lcI g _ k (i + 1) m1).bind _
            congr 1
            funext ds m2
            cases o <;> rfl⟩)
theorem lcRun_at (g : D → Mem → Rs (Option D)) (it : It) (fu : Nat) (m : Mem) : ∃ k, okK it 0 k ∧ lcRun fu g it m = lcAt g it 0 k m := by
  cases it with
  | fixed xs => exact ⟨xs.length, rfl, by show lcF g xs m = lcF g (xs.drop 0) m; rw [List.drop_zero]⟩
  | _ => exact ⟨fu, trivial, rfl⟩

/-- where a comprehension stands: its list at Dl, of no place -/
structure LcAt (t : Tx) (K : PySem.W.Frag) (Dl : Addr) (ρ0 : Pl) (H0 : Hp) (n0 : Nat) (ρ1 : Pl) (H1 : Hp) (n1 : Nat) (ρ : Pl) (H : Hp) (m : Mem) (ds : List D) (acc : List V) : Prop where
  ext : Ext ρ1 H1 n1 ρ H m.len
  rm : RelM t K ρ H m
  at_ : H Dl = some (.lst acc)
  no : ∀ j, j < m.len → ρ j ≠ Dl
  rp : Reps t K ρ H ds acc
  bl : D.bels m.len ds
  le : n1 ≤ m.len
  fr : H1 Dl = none
  ax : ExtW ρ0 H0 n0 ρ H
  al : n0 ≤ m.len
theorem ExtW.trans {ρ ρ1 ρ2 : Pl} {H H1 H2 : Hp} {n n1 : Nat} (a : ExtW ρ H n ρ1 H1) (b : ExtW ρ1 H1 n1 ρ2 H2) (h : n ≤ n1) : ExtW ρ H n ρ2 H2 :=
  ⟨fun k hk => (b.pl k (Nat.lt_of_lt_of_le hk h)).trans (a.pl k hk), fun x xs e => b.tup x xs (a.tup x xs e), fun x o u e => b.frz x o u (a.frz x o u e)⟩
theorem LcAt.on {K : PySem.W.Frag} {Dl : Addr} {ρ0 ρ1 ρ ρ' : Pl} {H0 H1 H H' : Hp} {n0 n1 : Nat} {m m' : Mem} {ds : List D} {acc : List V} (L : LcAt t K Dl ρ0 H0 n0 ρ1 H1 n1 ρ H m ds acc) (e : Ext ρ H m.len ρ' H' m'.len) (rm' : RelM t K ρ' H' m') (hl : m.len ≤ m'.len) : LcAt t K Dl ρ0 H0 n0 ρ1 H1 n1 ρ' H' m' ds acc :=
  ⟨L.ext.trans e L.le, rm', e.frm _ _ L.at_ (fun _ z => by cases z) L.no, e.new _ _ L.at_ (fun _ z => by cases z) L.no, Reps.ext e _ _ L.bl L.rp, D.bels_le hl _ L.bl, Nat.le_trans L.le hl, L.fr, L.ax.trans e.w L.al, Nat.le_trans L.al hl⟩
theorem LcAt.cln {K : PySem.W.Frag} {Dl : Addr} {ρ0 ρ1 ρ ρ' : Pl} {H0 H1 H H' : Hp} {n0 n1 : Nat} {m m' : Mem} {ds : List D} {acc : List V} (L : LcAt t K Dl ρ0 H0 n0 ρ1 H1 n1 ρ H m ds acc) (e : Ext ρ H m.len ρ' H' m'.len) (rm' : RelM t K ρ' H' m') (hl : m.len ≤ m'.len) : LcAt t K Dl ρ0 H0 n0 ρ1 H1 n1 ρ' H' (cln m m') ds acc := by
  obtain ⟨q1, q2⟩ := cln_ok rm' L.rm.esc hl
  exact L.on (e.trim len_cln) q1 q2
/-- one more item -/
theorem LcAt.app {K : PySem.W.Frag} {Dl : Addr} {ρ0 ρ1 ρ : Pl} {H0 H1 H : Hp} {n0 n1 : Nat} {m : Mem} {ds : List D} {acc : List V} {d : D} {y : V} (L : LcAt t K Dl ρ0 H0 n0 ρ1 H1 n1 ρ H m ds acc) (r : Rep t K ρ H d y) (b : d.bel m.len) : LcAt t K Dl ρ0 H0 n0 ρ1 H1 n1 ρ (upd H Dl (.lst (acc ++ [y]))) m (ds ++ [d]) (acc ++ [y]) := by
  have ew : ExtW ρ H m.len ρ (upd H Dl (.lst (acc ++ [y]))) := extW_other L.at_ (fun _ z => by cases z) (fun _ _ z => by cases z)
  refine ⟨⟨L.ext.pl, fun a xs e => ew.tup _ _ (L.ext.tup a xs e), fun a o u e => ew.frz _ _ _ (L.ext.frz a o u e), fun a o e z k => ?_, L.ext.new⟩, L.rm.other L.at_ (fun _ z => by cases z) (fun _ _ z => by cases z) L.no, upd_same, L.no, ?_, ?_, L.le, L.fr, L.ax.trans ew L.al, L.al⟩
  · have q := L.ext.frm a o e z k
    rw [upd_ne (fun z => by rw [z, L.fr] at e; cases e)]
    exact q
  · exact Reps.append (Reps.extW ew _ _ L.bl L.rp) (by simp only [Reps]; exact ⟨Rep.extW ew _ _ b r, trivial⟩)
  · exact bels_append L.bl (by simp only [D.bels]; exact ⟨b, trivial⟩)
theorem LcAt.start {K : PySem.W.Frag} {Dl : Addr} {ρ1 : Pl} {H1 : Hp} {m : Mem} (rm : RelM t K ρ1 H1 m) (h : H1 Dl = none) : LcAt t K Dl ρ1 H1 m.len ρ1 H1 m.len ρ1 (upd H1 Dl (.lst [])) m [] [] :=
  ⟨ext_new h, rm.new h, upd_same, no_place rm h, by simp only [Reps], by simp only [D.bels], Nat.le_refl _, h, (ext_new (n := m.len) h).w, Nat.le_refl _⟩
/-- the list is given a place: it is what newL gives -/
theorem LcAt.done {K : PySem.W.Frag} {Wx : XK} {Dl : Addr} {ρ0 ρ1 ρ : Pl} {H0 H1 H : Hp} {n0 n1 : Nat} {m : Mem} {ds : List D} {acc : List V} {Q : VK} (L : LcAt t K Dl ρ0 H0 n0 ρ1 H1 n1 ρ H m ds acc) (q : RQ srD t K Wx ρ1 H1 n1 (newL m ds) Q) : Q (.ref Dl) H := by
  obtain ⟨_, q⟩ := RQ.iteN q
  have e : Ext ρ1 H1 n1 (plAt ρ m.len Dl) H (m.push (.lst ds)).len := by
    rw [len_push]
    refine ⟨fun k hk => (plAt_ne (by have := L.le; omega)).trans (L.ext.pl k hk), L.ext.tup, L.ext.frz, L.ext.frm, fun x o e w k j hj => ?_⟩
    by_cases h : j = m.len
    · rw [h, plAt_same]
      exact fun z => by rw [← z, L.fr] at e; cases e
    · rw [plAt_ne h]
      exact L.ext.new x o e w k j (by omega)
  have e2 : ExtW ρ H m.len (plAt ρ m.len Dl) H := ⟨fun k hk => plAt_ne (Nat.ne_of_lt hk), fun _ _ e => e, fun _ _ _ e => e⟩
  refine q (plAt ρ m.len Dl) H (.ref Dl) e ?_ ?_ ?_ (by rw [len_push]; exact Nat.le_succ_of_le L.le)
  · refine ⟨fun k o h => ?_, fun i j oi oj g1 g2 r1 r2 ee => ?_, by rw [len_push]; exact fun p hp => Nat.le_succ_of_le (L.rm.esc p hp), L.rm.tbs⟩
    · rw [get_push] at h
      by_cases c : k = m.len
      · rw [if_pos c] at h
        cases h
        subst c
        exact ⟨⟨acc, by rw [plAt_same]; exact L.at_, Reps.extW e2 _ _ L.bl L.rp⟩, Ob.bel_le (Nat.le_trans (Nat.le_succ _) (le_lim _ _)) (.lst _) L.bl⟩
      · rw [if_neg c] at h
        refine ⟨?_, (L.rm.ob k o h).2⟩
        rw [plAt_ne c]
        exact RepO.keepW (n := m.len) e2 (L.rm.bel h) (fun _ z => z) (L.rm.ob k o h).1
    · rw [get_push] at g1 g2
      by_cases ci : i = m.len
      · by_cases cj : j = m.len
        · rw [ci, cj]
        · rw [if_neg cj] at g2
          rw [ci, plAt_same, plAt_ne cj] at ee
          exact absurd ee.symm (L.no j (get_lt g2))
      · rw [if_neg ci] at g1
        by_cases cj : j = m.len
        · rw [cj, plAt_same, plAt_ne ci] at ee
          exact absurd ee (L.no i (get_lt g1))
        · rw [if_neg cj] at g2
          rw [plAt_ne ci, plAt_ne cj] at ee
          exact L.rm.inj i j oi oj g1 g2 r1 r2 ee
  · show Rep t K (plAt ρ m.len Dl) H (.loc m.len) (.ref Dl)
    simp only [Rep]
    rw [plAt_same]
  · show D.bel _ (.loc m.len)
    simp only [D.bel]
    rw [len_push]
    exact Nat.lt_succ_self _
def noSet : Expr → Bool
  | .Set _ _ _ => false
  | _ => true
theorem set_of {e : Expr} (h : noSet e = true) (env : Env) (x : Value) : foldedSetIterable e env x = pure x := by
  unfold foldedSetIterable
  split
  · cases h
  · rfl
theorem RQd.of {α β : Type} {S : Srt α β} {K : PySem.W.Frag} {Wx : XK} {ρ : Pl} {H : Hp} {k : Nat} {r : Rs α} {f : α → Mem → Rs D} {Q : VK} {Q1 : α → Mem → Pl → β → Hp → Prop} (h : RQ srD t K Wx ρ H k (r.bind f) Q)
    (kk : ∀ d m1 ρ1 H1 v, r = .ok d m1 → Ext ρ H k ρ1 H1 m1.len → RelM t K ρ1 H1 m1 → S.rp t K ρ1 H1 d v → S.bl m1.len d → k ≤ m1.len → RQ srD t K Wx ρ1 H1 m1.len (f d m1) Q → Q1 d m1 ρ1 v H1) : RQd S t K Wx ρ H k r Q1 := by
  cases r with
  | ok d m1 => exact fun ρ1 H1 v e rm rp bl hl => kk d m1 ρ1 H1 v rfl e rm rp bl hl (RQ.on (show RQ srD t K Wx ρ H k (f d m1) Q from h) e hl)
  | exc c fs m' => exact h
  | stuck => exact h

/-- one turn of the block, read -/
theorem lc_turn {K : PySem.W.Frag} {g : TG} {own : List Nat} {s : Sl} {σ : L2.St} {ts : ExB} {e : Ex} {x : D} {y : V} {Dl : Addr} {ρ0 ρ1 ρ : Pl} {H0 H1 H : Hp} {n0 n1 : Nat} {m mE : Mem} {ds : List D} {acc : List V} {o : Option D} {Nx : Hp → Prop}
    (hi : ∀ i ∈ g.names, i ∈ own) (L : LcAt t K Dl ρ0 H0 n0 ρ1 H1 n1 ρ H m ds acc) (rs : RelS t K ρ H m.len s σ) (rx : Rep t K ρ H x y) (bx : x.bel m.len) (q : turnE g own s ts e x m = .ok o mE)
    (hz : o.isSome = true → acc.length < sizeLine) (ky : ∀ ρ2 H2 acc2, LcAt t K Dl ρ0 H0 n0 ρ1 H1 n1 ρ2 H2 mE (ds ++ consO o []) acc2 → Nx H2) :
    tG t K g y (L2.wipe σ own) H fun σ2 H2 => L2.wipe σ2 own = L2.wipe σ own ∧ tT t K W0 ts σ2 H2 fun b H3 => if b = true then tE t K W0 e σ2 H3 fun y H4 => ∃ acc, H4 Dl = some (.lst acc) ∧ acc.length < sizeLine ∧ Nx (upd H4 Dl (.lst (acc ++ [y]))) else Nx H3 := by
  unfold turnE at q
  cases ha : asgT g x (wipeS own s) with
  | none => simp only [ha] at q; cases q
  | some s' =>
    simp only [ha] at q
    obtain ⟨b, m1, q1, q2⟩ := noexc_ok q
    refine ⟨ρ, wipeS own s, x, m.len, s', rs.wipe own, rx, bx, ha, fun σ2 rs2 so => ⟨(so.wiped hi).trans wipe_wipe, ρ, s', m, L.rm, rs2, ?_⟩⟩
    refine RQ.okI q1 fun ρ2 H2 b' e1 rm1 rb _ hl1 => ?_
    have eb : b' = b := rb
    rw [eb]
    have L1 := L.on e1 rm1 hl1
    cases b with
    | false =>
      refine (if_neg Bool.false_ne_true).mpr ?_
      simp only at q2
      cases q2
      refine ky ρ2 H2 acc ?_
      show LcAt t K Dl ρ0 H0 n0 ρ1 H1 n1 ρ2 H2 (cln m m1) (ds ++ []) acc
      rw [List.append_nil]
      exact L.cln e1 rm1 hl1
    | true =>
      simp only at q2
      obtain ⟨d, m2, q3, q4⟩ := noexc_ok q2
      refine (if_pos rfl).mpr ⟨ρ2, s', m1, rm1, rs2.ext e1 hl1, RQ.okI q3 fun ρ3 H3 y3 e2 rm2 rp2 bl2 hl2 => ?_⟩
      have e3 := e1.trans e2 hl1
      have hl3 := Nat.le_trans hl1 hl2
      unfold clnE at q4
      injection q4 with q5 q6
      subst q5
      have key : LcAt t K Dl ρ0 H0 n0 ρ1 H1 n1 ρ3 H3 mE ds acc ∧ Rep t K ρ3 H3 d y3 ∧ d.bel mE.len := by
        cases hn : d.nl with
        | true =>
          rw [hn, if_pos rfl] at q6
          subst q6
          exact ⟨L.cln e3 rm2 hl3, rp2, D.bel_nl d hn⟩
        | false =>
          rw [hn, if_neg Bool.false_ne_true] at q6
          subst q6
          exact ⟨L.on e3 rm2 hl3, rp2, bl2⟩
      exact ⟨acc, key.1.at_, hz rfl, ky ρ3 _ _ (key.1.app key.2.1 key.2.2)⟩
theorem lc_imp {g : TG} {k : IK} {xes : ExL} {ts : ExB} {e : Ex} {own : List Nat} {σ : L2.St} {H : Hp} {Q : VK} (hn : ∀ i ∈ g.names, i ∈ own) (q : tE t X.K W (xLc C own g k xes ts e) σ H Q) : tLc (tI t X.K W k xes) (tG t X.K g) (tT t X.K W0 ts) (tE t X.K W0 e) own σ H Q := by
  obtain ⟨ρ, s, m, rm, rs, q⟩ := q
  unfold xLc at q
  refine ⟨ρ, s, m, rm, rs, RQd.of q fun ds m1 ρ1 H1 vs _ ex rm1 _ _ hl q1 => ?_⟩
  cases hit : itOf k ds m1 with
  | none => simp only [hit] at q1; exact False.elim q1
  | some it =>
    simp only [hit] at q1
    refine ⟨it, rfl, fun J hJ Dl hD => ?_⟩
    obtain ⟨xs, mE, q2, q3⟩ := RQ.noexc q1
    obtain ⟨k0, ok0, e0⟩ := lcRun_at (turnE g own s ts e) it C.fu m1
    rw [e0] at q2
    have rs1 := rs.ext ex hl
    refine ⟨fun i kk H' => ∃ ρ' m' ds' acc xs mE, okK it i kk ∧ LcAt t X.K Dl ρ1 H1 m1.len ρ1 H1 m1.len ρ' H' m' ds' acc ∧ lcAt (turnE g own s ts e) it i kk m' = .ok xs mE ∧ RQ srD t X.K (WE W σ) ρ1 H1 m1.len (newL mE (ds' ++ xs)) Q, ⟨k0, ρ1, m1, [], [], xs, mE, ok0, LcAt.start rm1 hD, q2, q3⟩, ?_⟩
    rintro i kk H' ⟨ρ', m', ds', acc, xs, mE, ok1, L, q2, q3⟩
    obtain ⟨j1, j2⟩ := hJ ρ' H' m' L.ext.w L.rm L.le i
    rcases lcAt_step (turnE g own s ts e) it i kk m' ok1 with ⟨z1, z2⟩ | ⟨x, z1, k', hk', ok', z2⟩ | z
    · rw [z2] at q2
      injection q2 with e1 e2
      subst e1 e2
      rw [List.append_nil] at q3
      exact .inl ⟨j1 z1, L.done q3⟩
    · obtain ⟨go, yl⟩ := j2 x z1
      rw [z2] at q2
      obtain ⟨o, mT, q4, q5⟩ := bind_ok q2
      obtain ⟨ds2, mF, q6, q7⟩ := bind_ok q5
      injection q7 with e1 e2
      subst e1 e2
      have hsz := (RQ.iteN q3).1
      refine .inr ⟨go, fun H2 => ∃ ρ2 acc2, LcAt t X.K Dl ρ1 H1 m1.len ρ1 H1 m1.len ρ2 H2 mT (ds' ++ consO o []) acc2, fun H2 ⟨ρ2, acc2, L2'⟩ => ⟨k', hk', ρ2, mT, _, acc2, ds2, mF, ok', L2', q6, ?_⟩, fun y H2 hy => ?_⟩
      · have eo : consO o ds2 = consO o [] ++ ds2 := by cases o <;> rfl
        rw [eo, ← List.append_assoc] at q3
        exact q3
      · obtain ⟨e2, rm2, r2, b2⟩ := yl y H2 hy
        have L2' := L.on e2 rm2 (Nat.le_refl _)
        refine lc_turn hn L2' (rs1.ext L2'.ext L2'.le) r2 b2 q4 (fun ho => ?_) fun ρ3 H3 acc3 L3 => ⟨ρ3, acc3, L3⟩
        rw [← L2'.rp.length]
        cases o with
        | none => cases ho
        | some d =>
          rw [List.length_append] at hsz
          have : (consO (some d) ds2).length = ds2.length + 1 := rfl
          omega
    · rw [z] at q2
      cases q2
theorem s_lc (G : Gd t n C W X) {elt tg iter : Expr} {ifs : List Expr} {scope : Scope} {own : List (Str × Nat)} {pos : Pos} {g : TG} {k : IK} {xes : ExL} {ts : ExB} {e : Ex} (hi : PI X tg iter (tI t X.K W k xes)) (ok : BlkOk X.N X.env.scope scope own)
    (hg : ∀ (s : Shared) (H : Hp) (A : Addr) (cl : List (Str × Addr)) (fp : List Addr), PG (X.blk s H scope (compEnvC scope cl A X.env) fp) tg (tG t X.K g)) (ht : ∀ (s : Shared) (H : Hp) (A : Addr) (cl : List (Str × Addr)) (fp : List Addr), PTs (X.blk s H scope (compEnvC scope cl A X.env) fp) ifs (tT t X.K W0 ts))
    (he : ∀ (s : Shared) (H : Hp) (A : Addr) (cl : List (Str × Addr)) (fp : List Addr), PE (X.blk s H scope (compEnvC scope cl A X.env) fp) elt (tE t X.K W0 e)) (hs : noSet iter = true) (hn : ∀ i ∈ g.names, i ∈ own.map (·.2)) :
    PE X (.ListComp elt [⟨tg, iter, ifs, 0⟩] scope pos) (tE t X.K W (xLc C (own.map (·.2)) g k xes ts e)) := by
  refine PE.imp (pe_lc G.calm G.N hi ok hg ht he (set_of hs _)) fun σ H Q q => lc_imp hn q
end
end NV

set_option Elab.async false
set_option linter.all false
set_option maxRecDepth 100000
set_option maxHeartbeats 4000000
/-! NvCls: attributes, methods, new instances. -/
namespace NV
open PySem PySem.Spec PyProof.Rows L2
section
variable {t : Tx} {n : Nx} {C : Ct} {W : WX} {X : Cx} {K : PySem.W.Frag} {ρ : Pl} {H : Hp} {m : Mem}
theorem get_ins {k c : Nat} {fs : List (Nat × NV.D)} (rm : RelM t K ρ H m) (g : m.get k = some (.ins c fs)) : ∃ dx gs, H (ρ k) = some (.ins (t.ca c) dx gs) ∧ RepFs t K ρ H fs gs ∧ belFs m.len fs := by
  obtain ⟨dx, gs, h1, h2⟩ := (rm.ob k _ g).1
  exact ⟨dx, gs, h1, h2, rm.bel g⟩
theorem fGet_ok {f : Nat} {y : Str} (hy : t.fln f = y ∧ ∀ k, t.fln k = y → k = f) : ∀ {fs : List (Nat × NV.D)} {gs : List (Str × V)}, RepFs t K ρ H fs gs →
    (match fGet fs f with
      | some d => ∃ v, gs.lookup y = some v ∧ Rep t K ρ H d v ∧ ∀ j, belFs j fs → d.bel j
      | none => gs.lookup y = none)
  | [], [], _ => rfl
  | (k, d) :: r, (q, v) :: s, ⟨h1, h2, h3⟩ => by
    have ih := fGet_ok hy h3
    unfold fGet
    cases c : (f == k) with
    | true =>
      have e : f = k := by simpa using c
      simp only [if_true]
      refine ⟨v, ?_, h2, fun j hb => ?_⟩
      · rw [h1, ← e, hy.1, List.lookup_cons, beq_self_eq_true]
      · simp only [belFs] at hb
        exact hb.1
    | false =>
      have e : f ≠ k := by simpa using c
      have ne : (y == q) = false := by
        rw [beq_eq_false_iff_ne]
        intro z
        exact e (hy.2 k (by rw [z, h1])).symm
      simp only [Bool.false_eq_true, if_false]
      rw [List.lookup_cons, ne]
      cases e2 : fGet r f with
      | none => rw [e2] at ih; exact ih
      | some d2 =>
        rw [e2] at ih
        obtain ⟨w, q1, q2, q3⟩ := ih
        refine ⟨w, q1, q2, fun j hb => ?_⟩
        simp only [belFs] at hb
        exact q3 j hb.2
  | [], _ :: _, h => h.elim
  | (_, _) :: _, [], h => h.elim
theorem fPut_ok {f : Nat} {y : Str} (hy : t.fln f = y ∧ ∀ k, t.fln k = y → k = f) {d : NV.D} {v : V} (rd : Rep t K ρ H d v) : ∀ {fs : List (Nat × NV.D)} {gs : List (Str × V)}, RepFs t K ρ H fs gs → RepFs t K ρ H (fPut fs f d) (putF y v gs)
  | [], [], _ => ⟨hy.1.symm, rd, trivial⟩
  | (k, d2) :: r, (q, v2) :: s, ⟨h1, h2, h3⟩ => by
    have ih := fPut_ok hy rd h3
    unfold fPut putF
    cases c : (k == f) with
    | true =>
      have e : k = f := by simpa using c
      simp only [if_true]
      rw [if_pos (by rw [h1, e, hy.1])]
      exact ⟨h1, rd, h3⟩
    | false =>
      have e : k ≠ f := by simpa using c
      simp only [Bool.false_eq_true, if_false]
      rw [if_neg (fun z => e (hy.2 k (by rw [← z, h1])))]
      exact ⟨h1, h2, ih⟩
  | [], _ :: _, h => h.elim
  | (_, _) :: _, [], h => h.elim
theorem belFs_put {j f : Nat} {d : NV.D} (bd : d.bel j) : ∀ {fs : List (Nat × NV.D)}, belFs j fs → belFs j (fPut fs f d)
  | [], _ => by simp only [fPut, belFs]; exact ⟨bd, trivial⟩
  | (k, d2) :: r, h => by
    simp only [belFs] at h
    unfold fPut
    split
    · simp only [belFs]; exact ⟨bd, h.2⟩
    · simp only [belFs]; exact ⟨h.1, belFs_put bd h.2⟩
theorem RepFs.length : ∀ {fs : List (Nat × NV.D)} {gs : List (Str × V)}, RepFs t K ρ H fs gs → fs.length = gs.length
  | [], [], _ => rfl
  | (_, _) :: r, (_, _) :: s, ⟨_, _, h⟩ => by simp only [List.length_cons, RepFs.length h]
  | [], _ :: _, h => h.elim
  | (_, _) :: _, [], h => h.elim

/-! ### o.f -/
theorem fld_ok (G : Gd t n C W X) {f : Nat} {y : Str} (hf : n.fld[f]? = some y) {Wx : XK} {ρ : Pl} {H : Hp} {m : Mem} {d : NV.D} {v : V} {Q : VK} (rm : RelM t X.K ρ H m) (rp : Rep t X.K ρ H d v) (q : RQ srD t X.K Wx ρ H m.len (fldD C f d m) Q) :
    ∃ a C dx fs v', v = .ref a ∧ H a = some (.ins C dx fs) ∧ Cls X.K C ∧ NoAttr X.K C y ∧ fs.lookup y = some v' ∧ Q v' H := by
  unfold fldD at q
  cases d <;> simp only at q <;> try (exact False.elim q)
  rename_i k
  cases g : m.get k with
  | none => simp only [g] at q; exact False.elim q
  | some o =>
    cases o <;> simp only [g] at q <;> try (exact False.elim q)
    rename_i c fs
    cases hc : C.fok c f with
    | false => simp only [hc] at q; exact False.elim q
    | true =>
      simp only [hc] at q
      obtain ⟨dx, gs, h1, h2, h3⟩ := get_ins rm g
      have hg := fGet_ok (G.atn f y hf) h2
      cases e : fGet fs f with
      | none => simp only [e] at q; exact False.elim q
      | some d2 =>
        simp only [e] at q hg
        obtain ⟨v2, l, r2, b2⟩ := hg
        obtain ⟨c1, c2⟩ := G.fok c f y hc hf
        exact ⟨ρ k, t.ca c, dx, gs, v2, rep_loc rp, h1, c1, c2, l, RQ.ok (S := srD) q rm r2 (b2 _ h3) (Nat.le_refl _)⟩
theorem s_fld (G : Gd t n C W X) {f : Nat} {y : Str} {o : Expr} {xo : Ex} {pos : Pos} (hf : n.fld[f]? = some y) (hn : noSup o = true) (ho : PE X o (tE t X.K W xo)) : PE X (.Attribute o y pos) (tE t X.K W (xFld C xo f)) := by
  refine PE.imp (pe_fld ho (base_of hn _ _)) fun σ H Q ⟨ρ, s, m, rm, rs, q⟩ => ?_
  unfold xFld at q
  exact tX_run rm rs q fun d m1 ρ1 H1 v _ _ rm1 _ rp _ _ q1 => fld_ok G hf rm1 rp q1

/-! ### o.m(..) -/
theorem methD_ok {mm : Nat} {d : NV.D} {k f : Nat} (h : methD C mm d m = some (k, f)) : d = .loc k ∧ ∃ c fs, m.get k = some (.ins c fs) ∧ fGet fs mm = none ∧ C.mth c mm = some f := by
  unfold methD at h
  cases d <;> simp only at h <;> try (cases h; done)
  rename_i j
  cases g : m.get j with
  | none => simp only [g] at h; cases h
  | some o =>
    cases o <;> simp only [g] at h <;> try (cases h; done)
    rename_i c fs
    cases e : fGet fs mm with
    | some v => simp only [e] at h; cases h
    | none =>
      simp only [e] at h
      cases e2 : C.mth c mm with
      | none => simp only [e2] at h; cases h
      | some f' =>
        simp only [e2] at h
        cases h
        exact ⟨rfl, c, fs, g, e, e2⟩
theorem formB {as : List Expr} {pos : Pos} {env : Env} (h : as.all noStar = true) (hl : as.length < 30) : methodCallForm (as.length + ([] : List Keyword).length) (backTo pos (starEach as env)) (backToKw pos (keywordEach [] env)) = true := by
  have h1 : (backTo pos (starEach as env)).all (fun x => !x.1) = true := by
    have q := noAny h pos env
    rw [List.all_eq_true]
    intro x hx
    have q2 := List.any_eq_false.mp q x hx
    simpa using q2
  unfold methodCallForm
  rw [h1]
  have h2 : (backToKw pos (keywordEach [] env)) = [] := rfl
  rw [h2]
  simpa using hl
theorem meth_tree {M : Model} {A : Around} {E : Value → Shared → Prop} {Q : Value → Shared → Prop} {s : Shared} {env : Env} {o : Expr} {y : Str} {apos cpos : Pos} {as : List Expr} (hn : noSup o = true) (hb : lineB apos cpos = true) (hs : as.all noStar = true) (hl : as.length < 30)
    (h : wpAny M A (eval o env) (fun ov s1 => wpAny M A (getMethod ov y (do return (← importBound o env).getD true)) (fun fx s2 => wpAny M A (callWith cpos fx.1 fx.2 (backTo cpos (starEach as env)) (backToKw cpos (keywordEach [] env))) Q E s2) E s1) E s) :
    wpAny M A (eval (.Call (.Attribute o y apos) as [] cpos) env) Q E s := by
  rw [arm_eval_Call, base_of hn]
  refine wpAny_bind (wpAny_mono h (fun ov s1 h1 => ?_) fun _ _ e => e)
  refine wpAny_bind (wpAny_standAt ?_)
  have hpos : methodCallPos true o env apos cpos = pure cpos := by
    unfold methodCallPos
    have : (apos.endLine == cpos.line) = true := hb
    simp [this]
  unfold methodCall
  rw [formB hs hl]
  refine wpAny_bind (wpAny_holding ?_)
  unfold calleeOf
  rw [if_pos rfl]
  refine wpAny_mono h1 (fun fx s2 h2 => ?_) fun _ _ e => e
  exact wpAny_bind (wpAny_of_eq hpos h2)
theorem s_meth (G : Gd t n C W X) {mm : Nat} {y : Str} {o : Expr} {as : List Expr} {xo : Ex} {xs : ExL} {apos cpos : Pos} (hf : n.fld[mm]? = some y) (hn : noSup o = true) (hb : lineB apos cpos = true) (hs : as.all noStar = true) (hl : as.length < 30) (ho : PE X o (tE t X.K W xo)) (ha : PA X as (tA t X.K W xs)) (h0 : as = [] → xs = xNil) :
    PE X (.Call (.Attribute o y apos) as [] cpos) (tE t X.K W (xMeth C xo mm xs)) := by
  refine ⟨fun pins s σ H Q I h => ?_⟩
  obtain ⟨ρ, s', m, rm, rs, q⟩ := h
  unfold xMeth at q
  have run : tE t X.K W xo σ H fun v H1 => ∃ ρ1 m1 k f c fs, v = .ref (ρ1 k) ∧ RelM t X.K ρ1 H1 m1 ∧ RelS t X.K ρ1 H1 m1.len s' σ ∧ k < m1.len ∧ m1.get k = some (.ins c fs) ∧ fGet fs mm = none ∧ C.mth c mm = some f ∧
      RQ srD t X.K (WE W σ) ρ1 H1 m1.len ((xs s' m1).bind fun ds m2 => C.call f (.loc k :: ds) m2) Q := by
    refine tX_run rm rs q fun d m1 ρ1 H1 v _ _ rm1 rs1 rp bl _ q1 => ?_
    cases e : methD C mm d m1 with
    | none => simp only [e] at q1; exact False.elim q1
    | some p =>
      obtain ⟨k, f⟩ := p
      simp only [e] at q1
      obtain ⟨rfl, c, fs, g, e1, e2⟩ := methD_ok e
      exact ⟨ρ1, m1, k, f, c, fs, rep_loc (t := t) (K := X.K) (ρ := ρ1) (H := H1) rp, rm1, rs1, get_lt g, g, e1, e2, q1⟩
  cases as with
  | nil =>
    have e0 := h0 rfl
    subst e0
    have hs' := hs
    refine meth_tree hn hb hs' hl (thn (ho.run pins s σ H _ I run) fun u s1 ⟨x, H1, I1, rx, ρ1, m1, k, f, c, fs, ex, rm1, rs1, kl, g, e1, e2, q1⟩ => ?_)
    subst ex
    obtain rfl : u = Value.ref (ρ1 k) := rx
    obtain ⟨dx, gs, h1, h2, h3⟩ := get_ins rm1 g
    have hk := fGet_ok (G.atn mm y hf) h2
    rw [e1] at hk
    obtain ⟨c1, c2, x0, hx⟩ := G.mth c mm f y e2 hf
    refine getmeth_ok I1 h1 c1 c2 hk ?_
    refine PySem.W.callWith_K0 (first := [.ref (ρ1 k)]) I1.kIn c2.kp (G.call hx pins s1 σ H1 [.ref (ρ1 k)] [.ref (ρ1 k)] Q ρ1 [.loc k] m1 I1 (.cons rfl .nil) rm1 ?_ ?_ q1)
    · simp [Reps, Rep]
    · simp only [D.bels, D.bel]; exact ⟨kl, trivial⟩
  | cons a as =>
    have hs' := hs
    simp only [List.all_cons, Bool.and_eq_true] at hs
    refine meth_tree hn hb hs' hl (thn (ho.run pins s σ H _ I run) fun u s1 ⟨x, H1, I1, rx, ρ1, m1, k, f, c, fs, ex, rm1, rs1, kl, g, e1, e2, q1⟩ => ?_)
    subst ex
    obtain rfl : u = Value.ref (ρ1 k) := rx
    obtain ⟨dx, gs, h1, h2, h3⟩ := get_ins rm1 g
    have hk := fGet_ok (G.atn mm y hf) h2
    rw [e1] at hk
    obtain ⟨c1, c2, x0, hx⟩ := G.mth c mm f y e2 hf
    refine getmeth_ok I1 h1 c1 c2 hk ?_
    have ta : tA t X.K W xs σ H1 fun vs H2 => ∃ ρ2 ds m2, RelM t X.K ρ2 H2 m2 ∧ Reps t X.K ρ2 H2 (.loc k :: ds) (.ref (ρ1 k) :: vs) ∧ D.bels m2.len (.loc k :: ds) ∧ RQ srD t X.K (WE W σ) ρ2 H2 m2.len (C.call f (.loc k :: ds) m2) Q :=
      tX_run rm1 rs1 q1 fun ds m2 ρ2 H2 vs _ ex rm2 _ rps bls hl2 q2 => ⟨ρ2, ds, m2, rm2, by simp only [Reps, Rep]; exact ⟨by rw [ex.pl k kl], rps⟩, by simp only [D.bels, D.bel]; exact ⟨Nat.lt_of_lt_of_le kl hl2, bls⟩, q2⟩
    refine PySem.W.callWith_K (first := [.ref (ρ1 k)]) (h₀ := X.base) I1.ok.mod.kin c2.kp (thn (ha.run cpos pins s1 σ H1 _ I1 ta) fun us s2 ⟨vs, H2, I2, r, ρ2, ds, m2, rm2, rps, bls, q2⟩ => ⟨I2.kIn, ?_⟩) (star_of hs.1 _ _) (noAny (by simp [hs.1, hs.2]) _ _)
    exact G.call hx pins s2 σ H2 (.ref (ρ1 k) :: us) (.ref (ρ1 k) :: vs) Q ρ2 (.loc k :: ds) m2 I2 (.cons rfl r) rm2 rps bls q2

/-! ### a new instance -/
theorem make_guards {A : Around} {Cl : Addr} {us : List Value} (hg : A.guards = some []) : (A.under (.builtin "type.__call__" ⟨.ref Cl :: us, []⟩)).guards = some [] := by
  unfold Around.under
  simp [hg, Code.guards, pushGuards, Code.isGuard, Code.weight, Code.isCreation, Code.isCaller, Code.frames, Code.isFrame, guardIds]
theorem FnG.make {X : Cx} {k : Nat} {f Cl : Addr} {fd : FuncData} {ps : List Str} {sp : Sp} {W : WX} {pins : List (Addr × Obj)} {σ : L2.St} {H : Hp} {s : Shared} {Q : VK} {us : List Value} {vs : List V} (M : Mk X.K Cl f) (F : FnG X.prog X.w X.K X.mg X.base k f fd ps sp) (hr : Room (k + 1) X.A) (hg : X.A.guards = some [])
    (hb : Binds X.K fd ps []) (tk : Takes X W) (I : Inv X pins σ H s) (r : Vals vs us)
    (h : ∀ x dx, H x = none → H dx = none → dx ≠ x → sp (.ref x :: vs) (upd (upd H dx (.own x)) x (.ins Cl dx [])) (fun v H2 => v = .non ∧ Q (.ref x) H2) (fun c d H' => W c d σ H')) :
    wpAny (model X.prog X.w) X.A (PySem.call (.ref Cl) us) (EP X pins σ Q) X.xe s := by
  have hq := h (s.heap.objs.size + 1) s.heap.objs.size (I.hok.fresh (Nat.le_succ _)) (I.hok.fresh (Nat.le_refl _)) (Nat.ne_of_lt (Nat.lt_succ_self _))
  have I2 := Inv.made (C := Cl) I
  have r2 : Vals (V.ref (s.heap.objs.size + 1) :: vs) (Value.ref (s.heap.objs.size + 1) :: us) := .cons rfl r
  have hl : (Value.ref (s.heap.objs.size + 1) :: us).length = ps.length := by
    have e := r2.length
    rw [F.len _ _ _ _ hq] at e
    exact e.symm
  have hb' := hb _ (Value.ref (s.heap.objs.size + 1) :: us) I2.kIn (by simpa using hl)
  rw [List.append_nil] at hb'
  refine wpAny_call (make_map (f := f) I.kIn M.makes M.init (beq_iff_eq.mp M.fn) (codeAny_mono (F.run _ X.stack _ _ ⟨Value.ref (s.heap.objs.size + 1) :: us, []⟩ (Value.ref (s.heap.objs.size + 1) :: us) _ _ _ (hr.make Cl us [])
    (make_guards hg) (I2.env0.make Cl us []) hb' r2 hq) fun r s' hq' => ?_))
  cases r with
  | error e => exact tk e s' (XE.of_call I2 (fun c d H' z => z) hq')
  | ok fl =>
    cases fl with
    | ret u =>
      obtain ⟨v, H', I3, rv, ev, q3⟩ := I2.after hq'
      subst ev
      exact ⟨rv, ⟨V.ref (s.heap.objs.size + 1), H', I3, rfl, q3⟩⟩
    | next => exact False.elim hq'
    | brk => exact False.elim hq'
    | cont => exact False.elim hq'
/-- a value just made: what __init__ does with it -/
theorem mk_ok {X : Cx} (G : Gd t n C W X) {c k : Nat} {σ : L2.St} {ρ : Pl} {H : Hp} {m : Mem} {ds : List NV.D} {vs : List V} {Q : VK} (rm : RelM t X.K ρ H m) (rps : Reps t X.K ρ H ds vs) (bls : D.bels m.len ds)
    (q : RQ srD t X.K (WE W σ) ρ H m.len ((C.call k (.loc m.len :: ds) (m.push (.ins c []))).bind (mkR m.len)) Q) (x dx : Addr) (hx : H x = none) (hd : H dx = none) (hne : dx ≠ x) :
    spF t X.K (C.call k) (.ref x :: vs) (upd (upd H dx (.own x)) x (.ins (t.ca c) dx [])) (fun v H2 => v = .non ∧ Q (.ref x) H2) fun cc d H' => W cc d σ H' := by
  have hx1 : upd H dx (.own x) x = none := by rw [upd_ne (Ne.symm hne)]; exact hx
  have rm1 : RelM t X.K ρ (upd H dx (.own x)) m := rm.new hd
  have rm2 : RelM t X.K (plAt ρ m.len x) (upd (upd H dx (.own x)) x (.ins (t.ca c) dx [])) (m.push (.ins c [])) :=
    rm1.push hx1 ⟨dx, [], upd_same, trivial⟩ (by show belFs _ _; simp only [belFs]) rm1.tracked
  have e1 : Ext ρ H m.len ρ (upd H dx (.own x)) m.len := ext_new hd
  have e2 : Ext ρ H m.len (plAt ρ m.len x) (upd (upd H dx (.own x)) x (.ins (t.ca c) dx [])) (m.len + 1) := e1.trans (ext_newAt hx1) (Nat.le_refl _)
  refine ⟨_, .loc m.len :: ds, m.push (.ins c []), rm2, ?_, ?_, ?_⟩
  · simp only [Reps, Rep]
    exact ⟨by rw [plAt_same], Reps.ext e2 ds vs bls rps⟩
  · simp only [D.bels, D.bel]
    rw [len_push]
    exact ⟨Nat.lt_succ_self _, D.bels_le (Nat.le_succ _) ds bls⟩
  · rw [len_push]
    generalize hr : C.call k (.loc m.len :: ds) (m.push (.ins c [])) = r at q
    cases r with
    | stuck => exact q
    | exc cc fs m' => exact fun ρ' H' od e rm rx bl hl => q ρ' H' od (e2.trans e (Nat.le_succ _)) rm rx bl (by omega)
    | ok d m' =>
      intro ρ' H' v e rm' rp bl hl
      have q' : RQ srD t X.K (WE W σ) ρ H m.len (mkR m.len d m') Q := q
      cases d <;> simp only [mkR] at q' <;> try (exact False.elim q')
      refine ⟨rp, q' ρ' H' (.ref x) (e2.trans e (Nat.le_succ _)) rm' ?_ ?_ (by omega)⟩
      · show Rep t X.K ρ' H' (.loc m.len) (.ref x)
        simp only [Rep]
        rw [e.pl m.len (Nat.lt_succ_self _), plAt_same]
      · show D.bel _ (.loc m.len)
        simp only [D.bel]
        omega
theorem Gd.make {X : Cx} (G : Gd t n C W X) {c k : Nat} {y : Str} (hk : C.ini c = some k) (hc : n.cnm[c]? = some y) {pins : List (Addr × Obj)} {s : Shared} {σ : L2.St} {H : Hp} {us : List Value} {vs : List V} {Q : VK} {ρ : Pl} {ds : List NV.D} {m : Mem} (I : Inv X pins σ H s) (r : Vals vs us) (rm : RelM t X.K ρ H m) (rps : Reps t X.K ρ H ds vs) (bls : D.bels m.len ds)
    (q : RQ srD t X.K (WE W σ) ρ H m.len ((C.call k (.loc m.len :: ds) (m.push (.ins c []))).bind (mkR m.len)) Q) : wpAny (model X.prog X.w) X.A (PySem.call (.ref (t.ca c)) us) (EP X pins σ Q) X.xe s := by
  obtain ⟨M, _, x0, hx⟩ := G.ini c k y hk hc
  obtain ⟨lv, fd, ps, h1, h2, h3⟩ := G.fng k x0 hx
  exact h3.make M (h1.mono (by omega)) G.gu h2 G.tk I r (mk_ok G rm rps bls q)
theorem s_mk {X : Cx} (G : Gd t n C W X) {c : Nat} {y : Str} {as : List Expr} {xs : ExL} {p pos : Pos} (hc : n.cnm[c]? = some y) (hg : glB X.env.scope y = true) (hn : nmB y = true) (hs : as.all noStar = true) (ha : PA X as (tA t X.K W xs)) (h0 : as = [] → xs = xNil) :
    PE X (.Call (.Name y p) as [] pos) (tE t X.K W (xMk C c xs)) := by
  refine ⟨fun pins s σ H Q I h => ?_⟩
  obtain ⟨ρ, s', m, rm, rs, q⟩ := h
  unfold xMk at q
  cases hk : C.ini c with
  | none => simp only [hk] at q; exact False.elim q
  | some k =>
    simp only [hk] at q
    obtain ⟨M, hm, _⟩ := G.ini c k y hk hc
    refine wpAny_Call_Name_kw (ld_glob I (gl_of hg) hm ?_ (nm_of hn).1)
    cases as with
    | nil =>
      have e0 := h0 rfl
      subst e0
      exact PySem.W.callWith_K0 I.kIn M.kp (G.make hk hc (us := []) (vs := []) I .nil rm (by simp only [Reps]) (by simp only [D.bels]) q)
    | cons a as =>
      simp only [List.all_cons, Bool.and_eq_true] at hs
      have ta : tA t X.K W xs σ H fun vs H1 => ∃ ρ1 ds m1, RelM t X.K ρ1 H1 m1 ∧ Reps t X.K ρ1 H1 ds vs ∧ D.bels m1.len ds ∧ RQ srD t X.K (WE W σ) ρ1 H1 m1.len ((C.call k (.loc m1.len :: ds) (m1.push (.ins c []))).bind (mkR m1.len)) Q :=
        tX_run rm rs q fun ds m1 ρ1 H1 vs _ _ rm1 _ rps bls _ q1 => ⟨ρ1, ds, m1, rm1, rps, bls, q1⟩
      refine PySem.W.callWith_K (h₀ := X.base) I.ok.mod.kin M.kp (thn (ha.run pos pins s σ H _ I ta) fun us s1 ⟨vs, H1, I1, r, ρ1, ds, m1, rm1, rps, bls, q1⟩ => ⟨I1.kIn, ?_⟩) (star_of hs.1 _ _) (noAny (by simp [hs.1, hs.2]) _ _)
      exact G.make hk hc I1 r rm1 rps bls q1
end
end NV

set_option Elab.async false
set_option linter.all false
set_option maxRecDepth 100000
set_option maxHeartbeats 4000000
/-! NvLc2: list comprehensions of two clauses. -/
namespace NV
open PySem PySem.Spec PyProof.Rows L2
section
variable {t : Tx} {n : Nx} {C : Ct} {W : WX} {X : Cx}
def lcAt2 (g : D → Mem → Rs (List D)) (it : It) (i k : Nat) (m : Mem) : Rs (List D) := match it with
  | .fixed xs => lcF2 g (xs.drop i) m
  | it => lcI2 g it k i m
theorem lcI2_step (g : D → Mem → Rs (List D)) (it : It) (i k : Nat) (m : Mem) : (itAt it i m = some none ∧ lcI2 g it (k + 1) i m = .ok [] m) ∨
    (∃ x, itAt it i m = some (some x) ∧ lcI2 g it (k + 1) i m = (g x m).bind fun o m1 => (lcI2 g it k (i + 1) m1).bind fun ds m2 => .ok (o ++ ds) m2) ∨ lcI2 g it (k + 1) i m = .stuck := by
  cases e : itAt it i m with
  | none => exact .inr (.inr (by simp only [lcI2, e]))
  | some o =>
    cases o with
    | none => exact .inl ⟨rfl, by simp only [lcI2, e]⟩
    | some x => exact .inr (.inl ⟨x, rfl, by simp only [lcI2, e]⟩)
theorem lcAt2_step (g : D → Mem → Rs (List D)) (it : It) (i k : Nat) (m : Mem) (h : okK it i k) : (itAt it i m = some none ∧ lcAt2 g it i k m = .ok [] m) ∨
    (∃ x, itAt it i m = some (some x) ∧ ∃ k', k' < k ∧ okK it (i + 1) k' ∧ lcAt2 g it i k m = (g x m).bind fun o m1 => (lcAt2 g it (i + 1) k' m1).bind fun ds m2 => .ok (o ++ ds) m2) ∨ lcAt2 g it i k m = .stuck := by
  cases it with
  | fixed xs =>
    have hk : k = xs.length - i := h
    cases e : xs[i]? with
    | none =>
      refine .inl ⟨by simp only [itAt, e], ?_⟩
      show lcF2 g (xs.drop i) m = _
      rw [List.drop_eq_nil_of_le (List.getElem?_eq_none_iff.mp e)]
      rfl
    | some x =>
      have hl := (List.getElem?_eq_some_iff.mp e).1
      refine .inr (.inl ⟨x, by simp only [itAt, e], k - 1, by omega, by show k - 1 = _; omega, ?_⟩)
      show lcF2 g (xs.drop i) m = _
      rw [List.drop_eq_getElem_cons hl]
      have ex : xs[i] = x := (List.getElem?_eq_some_iff.mp e).2
      rw [ex]
      rfl
  | dyn a =>
    cases k with
    | zero => exact .inr (.inr rfl)
    | succ k =>
      rcases lcI2_step g (.dyn a) i k m with z | ⟨x, z1, z2⟩ | z
      · exact .inl z
      · exact .inr (.inl ⟨x, z1, k, Nat.lt_succ_self k, trivial, z2⟩)
      · exact .inr (.inr z)
  | dyn2 a b =>
    cases k with
    | zero => exact .inr (.inr rfl)
    | succ k =>
      rcases lcI2_step g (.dyn2 a b) i k m with z | ⟨x, z1, z2⟩ | z
      · exact .inl z
      · exact .inr (.inl ⟨x, z1, k, Nat.lt_succ_self k, trivial, z2⟩)
      · exact .inr (.inr z)
  | dynE a =>
    cases k with
    | zero => exact .inr (.inr rfl)
    | succ k =>
      rcases lcI2_step g (.dynE a) i k m with z | ⟨x, z1, z2⟩ | z
      · exact .inl z
      · exact .inr (.inl ⟨x, z1, k, Nat.lt_succ_self k, trivial, z2⟩)
      · exact .inr (.inr z)
theorem lcRun2_at (g : D → Mem → Rs (List D)) (it : It) (fu : Nat) (m : Mem) : ∃ k, okK it 0 k ∧ lcRun2 fu g it m = lcAt2 g it 0 k m := by
  cases it with
  | fixed xs => exact ⟨xs.length, rfl, by show lcF2 g xs m = lcF2 g (xs.drop 0) m; rw [List.drop_zero]⟩
  | _ => exact ⟨fu, trivial, rfl⟩
theorem noexc_okL {α : Type} {r : Rs α} {y : α} {m : Mem} (h : r.noexc = .ok y m) : r = .ok y m := by
  cases r with
  | ok a m1 => exact h
  | exc c fs m' => cases h
  | stuck => cases h
theorem _root_.NV.RelS.extW {K : PySem.W.Frag} {ρ ρ' : Pl} {H H' : Hp} {n n' : Nat} {s : Sl} {σ : L2.St} (r : RelS t K ρ H n s σ) (e : ExtW ρ H n ρ' H') (h : n ≤ n') : RelS t K ρ' H' n' s σ :=
  ⟨r.len, fun i d hs => let ⟨v, h1, h2, h3⟩ := r.slot i d hs; ⟨v, h1, Rep.extW e d v h3 h2, D.bel_le h d h3⟩⟩
/-- the inner loop of one turn, read -/
theorem lc_in {K : PySem.W.Frag} {g : TG} {k : IK} {xes : ExL} {ts : ExB} {e : Ex} {own : List Nat} {s : Sl} {σ : L2.St} {Dl : Addr} {ρ0 ρ1 ρ : Pl} {H0 H1 H : Hp} {n0 n1 fu : Nat} {m mE : Mem} {ds o : List D} {acc : List V} {Nx : Hp → Prop} (hn : ∀ i ∈ g.names, i ∈ own)
    (L : LcAt t K Dl ρ0 H0 n0 ρ1 H1 n1 ρ H m ds acc) (rs : RelS t K ρ H m.len s σ) (q : ((xes s m).noexc.bind fun ds2 m4 => match itOf k ds2 m4 with
      | none => .stuck
      | some it2 => lcRun fu (turnE g own s ts e) it2 m4) = .ok o mE) (hz : (ds ++ o).length ≤ sizeLine) (ky : ∀ ρ2 H2 acc2, LcAt t K Dl ρ0 H0 n0 ρ1 H1 n1 ρ2 H2 mE (ds ++ o) acc2 → Nx H2) :
    tI t K W0 k xes σ H fun J1 H4 => ∃ W1 : Nat → Nat → Hp → Prop, (∃ m, W1 0 m H4) ∧ ∀ j k H, W1 j k H →
      (J1.stop j H ∧ Nx H) ∨ (J1.go j H ∧ ∃ Nx1 : Hp → Prop, (∀ H', Nx1 H' → ∃ k', k' < k ∧ W1 (j + 1) k' H') ∧ ∀ x H', J1.yld j H x H' → tG t K g x (L2.wipe σ own) H' fun σ3 H5 => L2.wipe σ3 own = L2.wipe σ own ∧ tT t K W0 ts σ3 H5 fun b H6 =>
        if b = true then tE t K W0 e σ3 H6 fun y H7 => ∃ acc, H7 Dl = some (.lst acc) ∧ acc.length < sizeLine ∧ Nx1 (upd H7 Dl (.lst (acc ++ [y]))) else Nx1 H6) := by
  obtain ⟨ds2, m4, q1, q2⟩ := noexc_ok q
  refine ⟨ρ, s, m, L.rm, rs, ?_⟩
  rw [q1]
  intro ρ4 H4 vs e4 rm4 _ _ hl4
  have L4 := L.on e4 rm4 hl4
  have rs4 := rs.ext e4 hl4
  cases hit : itOf k ds2 m4 with
  | none => simp only [hit] at q2; cases q2
  | some it =>
    simp only [hit] at q2
    refine ⟨it, rfl, fun J hJ => ?_⟩
    obtain ⟨k0, ok0, e0⟩ := lcRun_at (turnE g own s ts e) it fu m4
    rw [e0] at q2
    refine ⟨fun i kk H' => ∃ ρ' m' ds' acc xs, okK it i kk ∧ LcAt t K Dl ρ4 H4 m4.len ρ1 H1 n1 ρ' H' m' ds' acc ∧ lcAt (turnE g own s ts e) it i kk m' = .ok xs mE ∧ ds' ++ xs = ds ++ o, ⟨k0, ρ4, m4, ds, acc, o, ok0, { L4 with ax := ⟨fun _ _ => rfl, fun _ _ e => e, fun _ _ _ e => e⟩, al := Nat.le_refl _ }, q2, rfl⟩, ?_⟩
    rintro i kk H' ⟨ρ', m', ds', acc', xs, ok1, L', q3, q4⟩
    obtain ⟨j1, j2⟩ := hJ ρ' H' m' L'.ax L'.rm L'.al i
    rcases lcAt_step (turnE g own s ts e) it i kk m' ok1 with ⟨z1, z2⟩ | ⟨x, z1, k', hk', ok', z2⟩ | z
    · rw [z2] at q3
      injection q3 with e1 e2
      subst e1 e2
      rw [List.append_nil] at q4
      subst q4
      exact .inl ⟨j1 z1, ky ρ' H' acc' { L' with ax := L4.ax.trans L'.ax L4.al, al := Nat.le_trans L4.al L'.al }⟩
    · obtain ⟨go, yl⟩ := j2 x z1
      rw [z2] at q3
      obtain ⟨o1, mT, q5, q6⟩ := bind_ok q3
      obtain ⟨ds3, mF, q7, q8⟩ := bind_ok q6
      injection q8 with e1 e2
      subst e1 e2
      have eo : consO o1 ds3 = consO o1 [] ++ ds3 := by cases o1 <;> rfl
      refine .inr ⟨go, fun H2 => ∃ ρ2 acc2, LcAt t K Dl ρ4 H4 m4.len ρ1 H1 n1 ρ2 H2 mT (ds' ++ consO o1 []) acc2, fun H2 ⟨ρ2, acc2, L2'⟩ => ⟨k', hk', ρ2, mT, _, acc2, ds3, ok', L2', q7, by rw [List.append_assoc, ← eo]; exact q4⟩, fun y H2 hy => ?_⟩
      obtain ⟨e2, rm2, r2, b2⟩ := yl y H2 hy
      have L2' := L'.on e2 rm2 (Nat.le_refl _)
      have hsz : acc'.length + (consO o1 []).length ≤ sizeLine := by
        have h1 := L'.rp.length
        rw [← q4, eo] at hz
        simp only [List.length_append] at hz
        omega
      refine lc_turn hn L2' (rs4.extW L2'.ax L2'.al) r2 b2 q5 (fun ho => ?_) fun ρ3 H3 acc3 L3 => ⟨ρ3, acc3, L3⟩
      cases o1 with
      | none => cases ho
      | some d =>
        have : (consO (some d) []).length = 1 := rfl
        omega
    · rw [z] at q3
      cases q3

/-- one turn of the outer loop, read -/
theorem lc_out {K : PySem.W.Frag} {g g2 : TG} {k2 : IK} {xes2 : ExL} {ts ts2 : ExB} {e : Ex} {own own2 : List Nat} {s : Sl} {σ : L2.St} {x : D} {y : V} {Dl : Addr} {ρ0 ρ1 ρ : Pl} {H0 H1 H : Hp} {n0 n1 : Nat} {m mE : Mem} {ds o : List D} {acc : List V} {Nx : Hp → Prop}
    (hi : ∀ i ∈ g.names, i ∈ own) (hi2 : ∀ i ∈ g2.names, i ∈ own2) (L : LcAt t K Dl ρ0 H0 n0 ρ1 H1 n1 ρ H m ds acc) (rs : RelS t K ρ H m.len s σ) (rx : Rep t K ρ H x y) (bx : x.bel m.len) (q : turn2 C own own2 g s ts g2 k2 xes2 ts2 e x m = .ok o mE)
    (hz : (ds ++ o).length ≤ sizeLine) (ky : ∀ ρ2 H2 acc2, LcAt t K Dl ρ0 H0 n0 ρ1 H1 n1 ρ2 H2 mE (ds ++ o) acc2 → Nx H2) :
    tG t K g y (L2.wipe σ own) H fun σ2 H2 => L2.wipe σ2 own = L2.wipe σ own ∧ tT t K W0 ts σ2 H2 fun b H3 =>
      if b = true then tI t K W0 k2 xes2 σ2 H3 fun J1 H4 => ∃ W1 : Nat → Nat → Hp → Prop, (∃ m, W1 0 m H4) ∧ ∀ j k H, W1 j k H →
        (J1.stop j H ∧ Nx H) ∨ (J1.go j H ∧ ∃ Nx1 : Hp → Prop, (∀ H', Nx1 H' → ∃ k', k' < k ∧ W1 (j + 1) k' H') ∧ ∀ x H', J1.yld j H x H' → tG t K g2 x (L2.wipe σ2 own2) H' fun σ3 H5 => L2.wipe σ3 own2 = L2.wipe σ2 own2 ∧ tT t K W0 ts2 σ3 H5 fun b H6 =>
          if b = true then tE t K W0 e σ3 H6 fun y H7 => ∃ acc, H7 Dl = some (.lst acc) ∧ acc.length < sizeLine ∧ Nx1 (upd H7 Dl (.lst (acc ++ [y]))) else Nx1 H6)
      else Nx H3 := by
  unfold turn2 at q
  cases ha : asgT g x (wipeS own s) with
  | none => simp only [ha] at q; cases q
  | some s' =>
    simp only [ha] at q
    obtain ⟨b, m1, q1, q2⟩ := noexc_ok q
    refine ⟨ρ, wipeS own s, x, m.len, s', rs.wipe own, rx, bx, ha, fun σ2 rs2 so => ⟨(so.wiped hi).trans wipe_wipe, ρ, s', m, L.rm, rs2, ?_⟩⟩
    refine RQ.okI q1 fun ρ2 H2 b' e1 rm1 rb _ hl1 => ?_
    have eb : b' = b := rb
    rw [eb]
    have L1 := L.on e1 rm1 hl1
    cases b with
    | false =>
      refine (if_neg Bool.false_ne_true).mpr ?_
      simp only at q2
      cases q2
      refine ky ρ2 H2 acc ?_
      rw [List.append_nil]
      exact L.cln e1 rm1 hl1
    | true =>
      simp only at q2
      exact (if_pos rfl).mpr (lc_in hi2 L1 (rs2.ext e1 hl1) q2 hz ky)
theorem lc2_imp {g g2 : TG} {k k2 : IK} {xes xes2 : ExL} {ts ts2 : ExB} {e : Ex} {own own2 : List Nat} {σ : L2.St} {H : Hp} {Q : VK} (hn : ∀ i ∈ g.names, i ∈ own) (hn2 : ∀ i ∈ g2.names, i ∈ own2) (q : tE t X.K W (xLc2 C own own2 g k xes ts g2 k2 xes2 ts2 e) σ H Q) :
    tLc2 (tI t X.K W k xes) (tG t X.K g) (tT t X.K W0 ts) (tI t X.K W0 k2 xes2) (tG t X.K g2) (tT t X.K W0 ts2) (tE t X.K W0 e) own own2 σ H Q := by
  obtain ⟨ρ, s, m, rm, rs, q⟩ := q
  unfold xLc2 at q
  refine ⟨ρ, s, m, rm, rs, RQd.of q fun ds m1 ρ1 H1 vs _ ex rm1 _ _ hl q1 => ?_⟩
  cases hit : itOf k ds m1 with
  | none => simp only [hit] at q1; exact False.elim q1
  | some it =>
    simp only [hit] at q1
    refine ⟨it, rfl, fun J hJ Dl hD => ?_⟩
    obtain ⟨xs, mE, q2, q3⟩ := RQ.noexc q1
    obtain ⟨k0, ok0, e0⟩ := lcRun2_at (turn2 C own own2 g s ts g2 k2 xes2 ts2 e) it C.fu m1
    rw [e0] at q2
    have rs1 := rs.ext ex hl
    refine ⟨fun i kk H' => ∃ ρ' m' ds' acc xs mE, okK it i kk ∧ LcAt t X.K Dl ρ1 H1 m1.len ρ1 H1 m1.len ρ' H' m' ds' acc ∧ lcAt2 (turn2 C own own2 g s ts g2 k2 xes2 ts2 e) it i kk m' = .ok xs mE ∧ RQ srD t X.K (WE W σ) ρ1 H1 m1.len (newL mE (ds' ++ xs)) Q, ⟨k0, ρ1, m1, [], [], xs, mE, ok0, LcAt.start rm1 hD, q2, q3⟩, ?_⟩
    rintro i kk H' ⟨ρ', m', ds', acc, xs, mE, ok1, L, q2, q3⟩
    obtain ⟨j1, j2⟩ := hJ ρ' H' m' L.ext.w L.rm L.le i
    rcases lcAt2_step (turn2 C own own2 g s ts g2 k2 xes2 ts2 e) it i kk m' ok1 with ⟨z1, z2⟩ | ⟨x, z1, k', hk', ok', z2⟩ | z
    · rw [z2] at q2
      injection q2 with e1 e2
      subst e1 e2
      rw [List.append_nil] at q3
      exact .inl ⟨j1 z1, L.done q3⟩
    · obtain ⟨go, yl⟩ := j2 x z1
      rw [z2] at q2
      obtain ⟨o, mT, q4, q5⟩ := bind_ok q2
      obtain ⟨ds2, mF, q6, q7⟩ := bind_ok q5
      injection q7 with e1 e2
      subst e1 e2
      have hsz := (RQ.iteN q3).1
      refine .inr ⟨go, fun H2 => ∃ ρ2 acc2, LcAt t X.K Dl ρ1 H1 m1.len ρ1 H1 m1.len ρ2 H2 mT (ds' ++ o) acc2, fun H2 ⟨ρ2, acc2, L2'⟩ => ⟨k', hk', ρ2, mT, _, acc2, ds2, mF, ok', L2', q6, by rw [List.append_assoc]; exact q3⟩, fun y H2 hy => ?_⟩
      obtain ⟨e2, rm2, r2, b2⟩ := yl y H2 hy
      have L2' := L.on e2 rm2 (Nat.le_refl _)
      refine lc_out hn hn2 L2' (rs1.ext L2'.ext L2'.le) r2 b2 q4 ?_ fun ρ3 H3 acc3 L3 => ⟨ρ3, acc3, L3⟩
      simp only [List.length_append] at hsz ⊢
      omega
    · rw [z] at q2
      cases q2
theorem s_lc2 (G : Gd t n C W X) {elt tg iter tg1 iter1 : Expr} {ifs ifs1 : List Expr} {scope : Scope} {own : List (Str × Nat)} {own2 : List Nat} {pos : Pos} {g g2 : TG} {k k2 : IK} {xes xes2 : ExL} {ts ts2 : ExB} {e : Ex} (hi : PI X tg iter (tI t X.K W k xes)) (ok : BlkOk X.N X.env.scope scope own) (hv : ∀ i ∈ own2, i ∈ own.map (·.2))
    (hg : ∀ (s : Shared) (H : Hp) (A : Addr) (cl : List (Str × Addr)) (fp : List Addr), PG (X.blk s H scope (compEnvC scope cl A X.env) fp) tg (tG t X.K g)) (ht : ∀ (s : Shared) (H : Hp) (A : Addr) (cl : List (Str × Addr)) (fp : List Addr), PTs (X.blk s H scope (compEnvC scope cl A X.env) fp) ifs (tT t X.K W0 ts))
    (hi1 : ∀ (s : Shared) (H : Hp) (A : Addr) (cl : List (Str × Addr)) (fp : List Addr), PI (X.blk s H scope (compEnvC scope cl A X.env) fp) tg1 iter1 (tI t X.K W0 k2 xes2))
    (hg1 : ∀ (s : Shared) (H : Hp) (A : Addr) (cl : List (Str × Addr)) (fp : List Addr), PG (X.blk s H scope (compEnvC scope cl A X.env) fp) tg1 (tG t X.K g2)) (ht1 : ∀ (s : Shared) (H : Hp) (A : Addr) (cl : List (Str × Addr)) (fp : List Addr), PTs (X.blk s H scope (compEnvC scope cl A X.env) fp) ifs1 (tT t X.K W0 ts2))
    (he : ∀ (s : Shared) (H : Hp) (A : Addr) (cl : List (Str × Addr)) (fp : List Addr), PE (X.blk s H scope (compEnvC scope cl A X.env) fp) elt (tE t X.K W0 e)) (hs : noSet iter = true) (hs1 : noSet iter1 = true) (hn : ∀ i ∈ g.names, i ∈ own.map (·.2)) (hn2 : ∀ i ∈ g2.names, i ∈ own2) :
    PE X (.ListComp elt [⟨tg, iter, ifs, 0⟩, ⟨tg1, iter1, ifs1, 0⟩] scope pos) (tE t X.K W (xLc2 C (own.map (·.2)) own2 g k xes ts g2 k2 xes2 ts2 e)) := by
  refine PE.imp (pe_lc2 G.calm G.N hi ok hv hg ht hi1 hg1 ht1 he (set_of hs _) (fun env x => set_of hs1 env x)) fun σ H Q q => lc2_imp hn hn2 q
end
end NV

set_option Elab.async false
set_option linter.all false
set_option maxRecDepth 100000
set_option maxHeartbeats 4000000
/-! NvChk: a text's expression is the evaluator's: the check, and that it holds. -/
namespace NV
open PySem PySem.Spec PyProof.Rows L2

/-- the arguments of an operation's form -/
def prArgs (sc : Scope) (p : Pr) : Expr → Option (List Expr)
  | .BinOp a op b _ => if binP op = some p then some [a, b] else none
  | .UnaryOp op a _ => if op = .USub ∧ p = .neg then some [a] else none
  | .Compare a ops cs _ => (match ops, cs with
    | [op], [b] => if cmpP op b = some p ∧ behindInMarks op b = false then some [a, b] else none
    | _, _ => none)
  | .Subscript a b _ => if p = .idx ∧ noSlice b = true then some [a, b] else none
  | .Call f as ks _ => (match f, as, ks with
    | .Name f _, [a], [] => if biP p = some f ∧ glB sc f = true ∧ noStar a = true then some [a] else (match a with
      | .Call g bs ls cpos => (match g, bs, ls with
        | .Attribute o mm apos, [], [] => if p = .lstItems ∧ f = "list" ∧ mm = "items" ∧ glB sc f = true ∧ noSup o = true ∧ lineB apos cpos = true then some [o] else none
        | .Name g' _, [b], [] => if p = .lenset ∧ f = "len" ∧ g' = "set" ∧ glB sc f = true ∧ glB sc g' = true ∧ noStar b = true then some [b] else none
        | _, _, _ => none)
      | _ => none)
    | .Name f _, [a, b], [] => if biP2 p = some f ∧ glB sc f = true ∧ noStar a = true ∧ noStar b = true then some [a, b] else (match b with
      | .Name T _ => if isP p = some T ∧ f = "isinstance" ∧ glB sc f = true ∧ glB sc T = true ∧ noStar a = true then some [a] else none
      | _ => none)
    | _, _, _ => none)
  | _ => none
def meOk (p : Pr) (f : Str) : Nat → Bool
  | 0 => decide (p = .pop0 ∧ f = "pop")
  | 1 => decide (meP2 p = some f)
  | 2 => decide (p = .get2 ∧ f = "get")
  | _ => false
def itArgs (sc : Scope) (k : IK) (tg iter : Expr) : Option (List Expr) := match k with
  | .seq => if noStar iter = true then some [iter] else none
  | k => (match iter with
    | .Call f as ks _ => (match f, ks with
      | .Name f _, [] => (match k with
        | .rng1 => if f = "range" ∧ glB sc f = true ∧ as.length = 1 then some as else none
        | .rng2 => if f = "range" ∧ glB sc f = true ∧ as.length = 2 then some as else none
        | .rng3 => if f = "range" ∧ glB sc f = true ∧ as.length = 3 then some as else none
        | .zip => (match tg with
          | .Tuple _ _ _ => if f = "zip" ∧ glB sc f = true ∧ as.length = 2 then some as else none
          | _ => none)
        | .enum => (match tg with
          | .Tuple _ _ _ => if f = "enumerate" ∧ glB sc f = true ∧ as.length = 1 then some as else none
          | _ => none)
        | _ => none)
      | _, _ => none)
    | _ => none)
def isCmp : Expr → Bool
  | .Compare _ _ _ _ => true
  | _ => false
def cmpCE : CE → Bool
  | .pr _ _ => true
  | .chain _ _ _ _ _ => true
  | _ => false
def ownP (N : List Str) (own : List Nat) : List (Str × Nat) := own.map fun i => (N.getD i "", i)
def blkFn (scope : Scope) : Str → Bool := fun x => scope.names.lookup x == some .cell

/-- no parameter -/
def noAr : Arguments → Bool
  | ⟨[], [], none, [], [], none, []⟩ => true
  | _ => false
mutual
/-- names, constants, displays of such -/
def qkE : CE → Bool
  | .var _ => true
  | .int _ => true
  | .bl _ => true
  | .non => true
  | .str _ => true
  | .tup es => qkEs es
  | _ => false
termination_by structural e => e
def qkEs : List CE → Bool
  | [] => true
  | e :: es => qkE e && qkEs es
termination_by structural es => es
end
/-- the body of a lambda: a call -/
def qkB : CE → Bool
  | .call _ es => qkEs es
  | _ => false
mutual
def chkE (n : Nx) (N : List Str) : CE → Scope → Expr → Bool
  | .var i, sc, x => (match x with
    | .Name y _ => decide (N[i]? = some y) && (visB sc y && nmB y)
    | _ => false)
  | .int i, _, x => (match x with
    | .Constant (.int j) _ _ => decide (i = j)
    | _ => false)
  | .bl b, _, x => (match x with
    | .Constant (.bool c) _ _ => b == c
    | _ => false)
  | .non, _, x => isNoneC x
  | .str s, _, x => (match x with
    | .Constant (.str z) _ _ => decide (s = z)
    | _ => false)
  | .glo k, sc, x => (match x with
    | .Name y _ => decide (n.gnm[k]? = some y) && (glB sc y && nmB y)
    | _ => false)
  | .fnv k, sc, x => (match x with
    | .Name y _ => decide (n.fnm[k]? = some y) && (glB sc y && nmB y)
    | _ => false)
  | .pr p es, sc, x => (match prArgs sc p x with
    | some as => chkEs n N es sc as
    | none => false)
  | .me p o es, sc, x => (match x with
    | .Call (.Attribute ox f apos) as [] cpos => noSup ox && (lineB apos cpos && (meOk p f as.length && (chkE n N o sc ox && chkEs n N es sc as)))
    | _ => false)
  | .sl a lo hi, sc, x => (match x with
    | .Subscript ax (.Slice lx hx none _) _ => chkE n N a sc ax && (chkP n N lo sc lx && chkP n N hi sc hx)
    | _ => false)
  | .rev a, sc, x => (match x with
    | .Subscript ax (.Slice none none (some (.UnaryOp .USub (.Constant (.int i) _ _) _)) _) _ => decide (i = 1) && chkE n N a sc ax
    | _ => false)
  | .ofT c, sc, x => chkV n N c sc x
  | .ite c a b, sc, x => (match x with
    | .IfExp cx ax bx _ => chkT n N c sc cx && (chkE n N a sc ax && chkE n N b sc bx)
    | _ => false)
  | .chain p q a b c, sc, x => (match x with
    | .Compare ax [op, op'] [bx, cx] _ => decide (cmpP op bx = some p) && (decide (cmpP op' cx = some q) && (!(lastMarks [op, op'] [bx, cx]) && (chkE n N a sc ax && (chkE n N b sc bx && chkE n N c sc cx))))
    | _ => false)
  | .tup es, sc, x => (match x with
    | .Tuple xs _ _ => decide (es.length ≤ 1000) && chkEs n N es sc xs
    | _ => false)
  | .lst es, sc, x => (match x with
    | .List xs _ => decide (es.length ≤ 1000) && chkEs n N es sc xs
    | _ => false)
  | .dic ks vs, sc, x => (match ks, vs, x with
    | [], [], .Dict [] [] _ => true
    | _, _, _ => false)
  | .call k es, sc, x => (match x with
    | .Call (.Name f _) as [] _ => decide (n.fnm[k]? = some f) && (glB sc f && (nmB f && chkEs n N es sc as))
    | _ => false)
  | .lc own tg k es ts e, sc, x => (match x with
    | .ListComp elt [⟨tgx, iter, ifs, 0⟩] scope _ => blkC N sc scope (ownP N own) && (noSet iter && ((match itArgs sc k tgx iter with
        | some as => chkEs n N es sc as
        | none => false) && (chkG N (relS scope sc) (blkFn scope) tg tgx && (tg.names.all (fun i => own.contains i) && (chkT1 n N ts (relS scope sc) ifs && chkE n N e (relS scope sc) elt)))))
    | _ => false)
  | .lc2 own own2 tg k es ts tg2 k2 es2 ts2 e, sc, x => (match x with
    | .ListComp elt [⟨tgx, iter, ifs, 0⟩, ⟨tgx2, iter2, ifs2, 0⟩] scope _ => blkC N sc scope (ownP N own) && (own2.all (fun i => own.contains i) && (noSet iter && (noSet iter2 && ((match itArgs sc k tgx iter with
        | some as => chkEs n N es sc as
        | none => false) && ((match itArgs (relS scope sc) k2 tgx2 iter2 with
        | some as => chkEs n N es2 (relS scope sc) as
        | none => false) && (chkG N (relS scope sc) (blkFn scope) tg tgx && (tg.names.all (fun i => own.contains i) && (chkG N (relS scope sc) (blkFn scope) tg2 tgx2 && (tg2.names.all (fun i => own2.contains i) &&
          (chkT1 n N ts (relS scope sc) ifs && (chkT1 n N ts2 (relS scope sc) ifs2 && chkE n N e (relS scope sc) elt)))))))))))
    | _ => false)
  | .fld o f, sc, x => (match x with
    | .Attribute ox y _ => noSup ox && (decide (n.fld[f]? = some y) && chkE n N o sc ox)
    | _ => false)
  | .meth o f es, sc, x => (match x with
    | .Call (.Attribute ox y apos) as [] cpos => noSup ox && (lineB apos cpos && (decide (n.fld[f]? = some y) && (decide (as.length < 30) && (chkE n N o sc ox && chkEs n N es sc as))))
    | _ => false)
  | .mk c es, sc, x => (match x with
    | .Call (.Name y _) as [] _ => decide (n.cnm[c]? = some y) && (glB sc y && (nmB y && chkEs n N es sc as))
    | _ => false)
  | .lam k b, sc, x => (match x with
    | .Call (.Name y _) [.Lambda lp lb lsc _] [] _ => decide (n.fnm[k]? = some y) && (glB sc y && (nmB y && (noAr lp && (LamX.lamSB sc lsc && (qkB b && chkE n N b lsc lb)))))
    | _ => false)
  | _, _, _ => false
termination_by structural e => e
def chkP (n : Nx) (N : List Str) : CP → Scope → Option Expr → Bool
  | .non, _, x => (match x with
    | none => true
    | _ => false)
  | .at e, sc, x => (match x with
    | some y => chkE n N e sc y
    | none => false)
def chkEs (n : Nx) (N : List Str) : List CE → Scope → List Expr → Bool
  | [], _, xs => (match xs with
    | [] => true
    | _ => false)
  | e :: es, sc, xs => (match xs with
    | x :: xs => noStar x && (chkE n N e sc x && chkEs n N es sc xs)
    | [] => false)
def chkT (n : Nx) (N : List Str) : CT → Scope → Expr → Bool
  | .val e, sc, x => chkE n N e sc x && (plainT x || (cmpCE e && isCmp x))
  | .not c, sc, x => (match x with
    | .UnaryOp .Not y _ => chkT n N c sc y
    | _ => false)
  | .and ts, sc, x => (match x with
    | .BoolOp .And xs _ => chkTs n N ts sc xs
    | _ => false)
  | .or ts, sc, x => (match x with
    | .BoolOp .Or xs _ => chkTs n N ts sc xs
    | _ => false)
def chkTs (n : Nx) (N : List Str) : List CT → Scope → List Expr → Bool
  | [], _, _ => false
  | c :: cs, sc, xs => (match xs with
    | [] => false
    | x :: xs => chkT n N c sc x && (match cs, xs with
      | [], [] => true
      | _, _ => chkTs n N cs sc xs))
def chkV (n : Nx) (N : List Str) : CT → Scope → Expr → Bool
  | .val e, sc, x => chkE n N e sc x
  | .not c, sc, x => (match x with
    | .UnaryOp .Not y _ => chkV n N c sc y
    | _ => false)
  | .and ts, sc, x => (match x with
    | .BoolOp .And xs _ => chkVs n N ts sc xs
    | _ => false)
  | .or ts, sc, x => (match x with
    | .BoolOp .Or xs _ => chkVs n N ts sc xs
    | _ => false)
def chkVs (n : Nx) (N : List Str) : List CT → Scope → List Expr → Bool
  | [], _, _ => false
  | c :: cs, sc, xs => (match xs with
    | [] => false
    | x :: xs => chkV n N c sc x && (match cs, xs with
      | [], [] => true
      | _, _ => chkVs n N cs sc xs))
def chkT1 (n : Nx) (N : List Str) : List CT → Scope → List Expr → Bool
  | [], _, xs => (match xs with
    | [] => true
    | _ => false)
  | c :: cs, sc, xs => (match cs, xs with
    | [], [x] => chkT n N c sc x
    | _, _ => false)
end
end NV

set_option Elab.async false
set_option linter.all false
set_option maxRecDepth 100000
set_option maxHeartbeats 4000000
/-! NvQk: quiet expressions. -/
namespace NV
open PySem PySem.Spec PyProof.Rows L2
mutual
theorem qk_ev (C C' : Ct) : ∀ e, qkE e = true → evE C e = evE C' e
  | .var _, _ => by simp only [evE]
  | .int _, _ => by simp only [evE]
  | .bl _, _ => by simp only [evE]
  | .non, _ => by simp only [evE]
  | .str _, _ => by simp only [evE]
  | .tup es, h => by
    simp only [qkE] at h
    simp only [evE, qk_evs C C' es h]
  | .glo _, h => by simp only [qkE] at h; cases h
  | .fnv _, h => by simp only [qkE] at h; cases h
  | .pr _ _, h => by simp only [qkE] at h; cases h
  | .me _ _ _, h => by simp only [qkE] at h; cases h
  | .sl _ _ _, h => by simp only [qkE] at h; cases h
  | .rev _, h => by simp only [qkE] at h; cases h
  | .ofT _, h => by simp only [qkE] at h; cases h
  | .ite _ _ _, h => by simp only [qkE] at h; cases h
  | .chain _ _ _ _ _, h => by simp only [qkE] at h; cases h
  | .lst _, h => by simp only [qkE] at h; cases h
  | .dic _ _, h => by simp only [qkE] at h; cases h
  | .call _ _, h => by simp only [qkE] at h; cases h
  | .callV _ _, h => by simp only [qkE] at h; cases h
  | .lam _ _, h => by simp only [qkE] at h; cases h
  | .act _, h => by simp only [qkE] at h; cases h
  | .lc _ _ _ _ _ _, h => by simp only [qkE] at h; cases h
  | .lc2 _ _ _ _ _ _ _ _ _ _ _, h => by simp only [qkE] at h; cases h
  | .efld _ _, h => by simp only [qkE] at h; cases h
  | .isx _ _, h => by simp only [qkE] at h; cases h
  | .fld _ _, h => by simp only [qkE] at h; cases h
  | .meth _ _ _, h => by simp only [qkE] at h; cases h
  | .mk _ _, h => by simp only [qkE] at h; cases h
  | .cl _, h => by simp only [qkE] at h; cases h
termination_by structural e => e
theorem qk_evs (C C' : Ct) : ∀ es, qkEs es = true → evL C es = evL C' es
  | [], _ => by simp only [evL]
  | e :: es, h => by
    simp only [qkEs, Bool.and_eq_true] at h
    simp only [evL, qk_ev C C' e h.1, qk_evs C C' es h.2]
termination_by structural es => es
end
/-- each expression is the evaluator's -/
def PEs (t : Tx) (C : Ct) (W : WX) (X : Cx) : List CE → List Expr → Prop
  | [], [] => True
  | e :: es, x :: xs => noStar x = true ∧ PE X x (tE t X.K W (evE C e)) ∧ PEs t C W X es xs
  | _, _ => False
theorem PEs.pa {t : Tx} {C : Ct} {W : WX} {X : Cx} : ∀ {es : List CE} {xs : List Expr}, PEs t C W X es xs → PA X xs (tA t X.K W (evL C es)) ∧ xs.all noStar = true ∧ xs.length = es.length
  | [], [], _ => ⟨by simp only [evL]; exact s_pnil, rfl, rfl⟩
  | e :: es, x :: xs, ⟨h1, h2, h3⟩ => by
    obtain ⟨q1, q2, q3⟩ := h3.pa
    refine ⟨?_, by simp [h1, q2], by simp [q3]⟩
    simp only [evL]
    exact s_pcons h1 h2 q1
  | [], _ :: _, h => h.elim
  | _ :: _, [], h => h.elim
section
variable {t : Tx} {n : Nx} {C : Ct}
mutual
theorem qk_ok : ∀ (e : CE) (W : WX) (X : Cx) (x : Expr), qkE e = true → chkE n X.N e X.env.scope x = true → PE X x (tE t X.K W (evE C e))
  | .var i, W, X, x, _, h => by
    cases x <;> simp only [chkE] at h <;> try (cases h; done)
    simp only [Bool.and_eq_true] at h
    exact s_var (of_decide_eq_true h.1) h.2.1 h.2.2
  | .int i, W, X, x, _, h => by
    cases x <;> simp only [chkE] at h <;> try (cases h; done)
    split at h
    · rename_i he
      have e := of_decide_eq_true h
      simp only [Expr.Constant.injEq] at he
      obtain ⟨rfl, rfl, rfl⟩ := he
      subst e
      exact s_c pe_int (fun _ _ => Rep.int) fun _ => bel_int
    · cases h
  | .bl b, W, X, x, _, h => by
    cases x <;> simp only [chkE] at h <;> try (cases h; done)
    split at h
    · rename_i he
      have e : b = _ := eq_of_beq h
      simp only [Expr.Constant.injEq] at he
      obtain ⟨rfl, rfl, rfl⟩ := he
      subst e
      exact s_c pe_bl (fun _ _ => Rep.bl) fun _ => bel_bl
    · cases h
  | .non, W, X, x, _, h => by
    cases x <;> simp only [chkE, isNoneC] at h <;> try (cases h; done)
    split at h
    · rename_i he
      simp only [Expr.Constant.injEq] at he
      obtain ⟨rfl, rfl, rfl⟩ := he
      exact s_c pe_non (fun _ _ => Rep.non) fun _ => bel_non
    · cases h
  | .str z, W, X, x, _, h => by
    cases x <;> simp only [chkE] at h <;> try (cases h; done)
    split at h
    · rename_i he
      have e := of_decide_eq_true h
      simp only [Expr.Constant.injEq] at he
      obtain ⟨rfl, rfl, rfl⟩ := he
      subst e
      exact s_c pe_str (fun _ _ => Rep.str) fun _ => bel_str
    · cases h
  | .tup es, W, X, x, hq, h => by
    simp only [qkE] at hq
    simp only [chkE] at h
    split at h
    · simp only [Bool.and_eq_true] at h
      exact s_tup (of_decide_eq_true h.1) (qk_oks es W X _ hq h.2).pa.1
    · cases h
  | .glo _, _, _, _, h, _ => by simp only [qkE] at h; cases h
  | .fnv _, _, _, _, h, _ => by simp only [qkE] at h; cases h
  | .pr _ _, _, _, _, h, _ => by simp only [qkE] at h; cases h
  | .me _ _ _, _, _, _, h, _ => by simp only [qkE] at h; cases h
  | .sl _ _ _, _, _, _, h, _ => by simp only [qkE] at h; cases h
  | .rev _, _, _, _, h, _ => by simp only [qkE] at h; cases h
  | .ofT _, _, _, _, h, _ => by simp only [qkE] at h; cases h
  | .ite _ _ _, _, _, _, h, _ => by simp only [qkE] at h; cases h
  | .chain _ _ _ _ _, _, _, _, h, _ => by simp only [qkE] at h; cases h
  | .lst _, _, _, _, h, _ => by simp only [qkE] at h; cases h
  | .dic _ _, _, _, _, h, _ => by simp only [qkE] at h; cases h
  | .call _ _, _, _, _, h, _ => by simp only [qkE] at h; cases h
  | .callV _ _, _, _, _, h, _ => by simp only [qkE] at h; cases h
  | .lam _ _, _, _, _, h, _ => by simp only [qkE] at h; cases h
  | .act _, _, _, _, h, _ => by simp only [qkE] at h; cases h
  | .lc _ _ _ _ _ _, _, _, _, h, _ => by simp only [qkE] at h; cases h
  | .lc2 _ _ _ _ _ _ _ _ _ _ _, _, _, _, h, _ => by simp only [qkE] at h; cases h
  | .efld _ _, _, _, _, h, _ => by simp only [qkE] at h; cases h
  | .isx _ _, _, _, _, h, _ => by simp only [qkE] at h; cases h
  | .fld _ _, _, _, _, h, _ => by simp only [qkE] at h; cases h
  | .meth _ _ _, _, _, _, h, _ => by simp only [qkE] at h; cases h
  | .mk _ _, _, _, _, h, _ => by simp only [qkE] at h; cases h
  | .cl _, _, _, _, h, _ => by simp only [qkE] at h; cases h
termination_by structural e => e
theorem qk_oks : ∀ (es : List CE) (W : WX) (X : Cx) (xs : List Expr), qkEs es = true → chkEs n X.N es X.env.scope xs = true → PEs t C W X es xs
  | [], W, X, xs, _, h => by
    cases xs with
    | nil => simp only [PEs]
    | cons x xs => simp only [chkEs] at h; cases h
  | e :: es, W, X, xs, hq, h => by
    simp only [qkEs, Bool.and_eq_true] at hq
    cases xs with
    | nil => simp only [chkEs] at h; cases h
    | cons x xs =>
      simp only [chkEs, Bool.and_eq_true] at h
      simp only [PEs]
      exact ⟨h.1, qk_ok e W X x hq.1 h.2.1, qk_oks es W X xs hq.2 h.2.2⟩
termination_by structural es => es
end
end
end NV

set_option Elab.async false
set_option linter.all false
set_option maxRecDepth 100000
set_option maxHeartbeats 4000000
/-! NvSnd: what the check lets pass is so. -/
namespace NV
open PySem PySem.Spec PyProof.Rows L2
section
variable {t : Tx} {n : Nx} {C : Ct}
variable {W : WX} {X : Cx}
theorem PEs.one {es : List CE} {x : Expr} (h : PEs t C W X es [x]) : ∃ e, es = [e] ∧ noStar x = true ∧ PE X x (tE t X.K W (evE C e)) := by
  match es, h with
  | [e], ⟨h1, h2, _⟩ => exact ⟨e, rfl, h1, h2⟩
  | [], h => exact h.elim
  | _ :: _ :: _, ⟨_, _, h⟩ => exact h.elim
theorem PEs.two {es : List CE} {x y : Expr} (h : PEs t C W X es [x, y]) : ∃ e f, es = [e, f] ∧ noStar x = true ∧ noStar y = true ∧ PE X x (tE t X.K W (evE C e)) ∧ PE X y (tE t X.K W (evE C f)) := by
  match es, h with
  | [e, f], ⟨h1, h2, h3, h4, _⟩ => exact ⟨e, f, rfl, h1, h3, h2, h4⟩
  | [], h => exact h.elim
  | [_], ⟨_, _, h⟩ => exact h.elim
  | _ :: _ :: _ :: _, ⟨_, _, _, _, h⟩ => exact h.elim
theorem PEs.nil {es : List CE} (h : PEs t C W X es []) : es = [] := by
  match es, h with
  | [], _ => rfl
  | _ :: _, h => exact h.elim
theorem ite_some {α : Type} {c : Prop} [Decidable c] {a b : α} (h : (if c then some a else none) = some b) : c ∧ a = b := by
  by_cases hc : c
  · rw [if_pos hc] at h
    exact ⟨hc, Option.some.inj h⟩
  · rw [if_neg hc] at h
    cases h

theorem s_prArgs (G : Gd t n C W X) {p : Pr} {x : Expr} {as : List Expr} {es : List CE} (h : prArgs X.env.scope p x = some as) (he : PEs t C W X es as) : PE X x (tE t X.K W (xPr p (evL C es))) := by
  cases x <;> simp only [prArgs] at h <;> try (cases h; done)
  · rename_i a op b pos
    obtain ⟨h1, rfl⟩ := ite_some h
    obtain ⟨e, f, rfl, _, _, p1, p2⟩ := he.two
    simp only [evL]
    exact s_bin h1 p1 p2
  · rename_i op a pos
    obtain ⟨⟨rfl, rfl⟩, rfl⟩ := ite_some h
    obtain ⟨e, rfl, _, p1⟩ := he.one
    simp only [evL]
    exact s_neg p1
  · rename_i a ops cs pos
    split at h
    · obtain ⟨⟨h1, h2⟩, rfl⟩ := ite_some h
      obtain ⟨e, f, rfl, _, _, p1, p2⟩ := he.two
      simp only [evL]
      exact s_cmp G h1 h2 p1 p2
    · cases h
  · rename_i f as' ks pos
    split at h
    · rename_i f pf a
      split at h
      · rename_i hc
        cases h
        obtain ⟨e, rfl, h1, p1⟩ := he.one
        simp only [evL]
        exact s_bi1 G hc.1 hc.2.1 h1 p1
      · split at h
        · split at h
          · obtain ⟨⟨rfl, rfl, rfl, h4, h5, h6⟩, rfl⟩ := ite_some h
            obtain ⟨e, rfl, h1, p1⟩ := he.one
            simp only [evL]
            exact s_items G h4 h5 h6 p1
          · obtain ⟨⟨rfl, rfl, rfl, h4, h5, h6⟩, rfl⟩ := ite_some h
            obtain ⟨e, rfl, h1, p1⟩ := he.one
            simp only [evL]
            exact s_lenset G h4 h5 h6 p1
          · cases h
        · cases h
    · rename_i f pf a b
      split at h
      · rename_i hc
        cases h
        obtain ⟨e, e2, rfl, h1, h2, p1, p2⟩ := he.two
        simp only [evL]
        exact s_bi2 G hc.1 hc.2.1 h1 h2 p1 p2
      · split at h
        · obtain ⟨⟨h1, rfl, h3, h4, h5⟩, rfl⟩ := ite_some h
          obtain ⟨e, rfl, _, p1⟩ := he.one
          simp only [evL]
          exact s_is G h1 h3 h4 h5 p1
        · cases h
    · cases h
  · rename_i a b pos
    obtain ⟨⟨rfl, h2⟩, rfl⟩ := ite_some h
    obtain ⟨e, f, rfl, _, _, p1, p2⟩ := he.two
    simp only [evL]
    exact s_idx G h2 p1 p2
theorem s_meOk (G : Gd t n C W X) {p : Pr} {ox : Expr} {f : Str} {as : List Expr} {o : CE} {es : List CE} {apos cpos : Pos} (hn : noSup ox = true) (hb : lineB apos cpos = true) (h : meOk p f as.length = true) (ho : PE X ox (tE t X.K W (evE C o))) (he : PEs t C W X es as) :
    PE X (.Call (.Attribute ox f apos) as [] cpos) (tE t X.K W (xMe p (evE C o) (evL C es))) := by
  match as, h, he with
  | [], h, he =>
    have hc := of_decide_eq_true h
    obtain ⟨rfl, rfl⟩ := hc
    have e1 := he.nil
    subst e1
    simp only [evL]
    exact s_pop G hn hb ho
  | [a], h, he =>
    have hc : meP2 p = some f := of_decide_eq_true h
    obtain ⟨e, rfl, h1, p1⟩ := he.one
    simp only [evL]
    exact s_me2 G hc hn hb h1 ho p1
  | [a, b], h, he =>
    have hc := of_decide_eq_true h
    obtain ⟨rfl, rfl⟩ := hc
    obtain ⟨e, e2, rfl, h1, h2, p1, p2⟩ := he.two
    simp only [evL]
    exact s_get2 G hn hb h1 h2 ho p1 p2
  | _ :: _ :: _ :: _, h, _ => cases h
theorem len1 {as : List Expr} (h : as.length = 1) : ∃ a, as = [a] := by
  match as, h with
  | [a], _ => exact ⟨a, rfl⟩
theorem len2 {as : List Expr} (h : as.length = 2) : ∃ a b, as = [a, b] := by
  match as, h with
  | [a, b], _ => exact ⟨a, b, rfl⟩
theorem len3 {as : List Expr} (h : as.length = 3) : ∃ a b c, as = [a, b, c] := by
  match as, h with
  | [a, b, c], _ => exact ⟨a, b, c, rfl⟩
theorem itC {sc : Scope} {k : IK} {tg iter : Expr} {as : List Expr} (hk : k ≠ .seq) (h : itArgs sc k tg iter = some as) : ∃ f p pos, iter = .Call (.Name f p) as [] pos ∧ glB sc f = true ∧
    ((k = .rng1 ∧ f = "range" ∧ as.length = 1) ∨ (k = .rng2 ∧ f = "range" ∧ as.length = 2) ∨ (k = .rng3 ∧ f = "range" ∧ as.length = 3) ∨ (k = .zip ∧ f = "zip" ∧ as.length = 2 ∧ ∃ es kk p, tg = .Tuple es kk p) ∨ (k = .enum ∧ f = "enumerate" ∧ as.length = 1 ∧ ∃ es kk p, tg = .Tuple es kk p)) := by
  unfold itArgs at h
  cases k with
  | seq => exact absurd rfl hk
  | rng1 =>
    simp only at h
    split at h
    · split at h
      · obtain ⟨⟨h1, h2, h3⟩, rfl⟩ := ite_some h
        exact ⟨_, _, _, rfl, h2, .inl ⟨rfl, h1, h3⟩⟩
      · cases h
    · cases h
  | rng2 =>
    simp only at h
    split at h
    · split at h
      · obtain ⟨⟨h1, h2, h3⟩, rfl⟩ := ite_some h
        exact ⟨_, _, _, rfl, h2, .inr (.inl ⟨rfl, h1, h3⟩)⟩
      · cases h
    · cases h
  | rng3 =>
    simp only at h
    split at h
    · split at h
      · obtain ⟨⟨h1, h2, h3⟩, rfl⟩ := ite_some h
        exact ⟨_, _, _, rfl, h2, .inr (.inr (.inl ⟨rfl, h1, h3⟩))⟩
      · cases h
    · cases h
  | zip =>
    simp only at h
    split at h
    · split at h
      · split at h
        · obtain ⟨⟨h1, h2, h3⟩, rfl⟩ := ite_some h
          exact ⟨_, _, _, rfl, h2, .inr (.inr (.inr (.inl ⟨rfl, h1, h3, _, _, _, rfl⟩)))⟩
        · cases h
      · cases h
    · cases h
  | enum =>
    simp only at h
    split at h
    · split at h
      · split at h
        · obtain ⟨⟨h1, h2, h3⟩, rfl⟩ := ite_some h
          exact ⟨_, _, _, rfl, h2, .inr (.inr (.inr (.inr ⟨rfl, h1, h3, _, _, _, rfl⟩)))⟩
        · cases h
      · cases h
    · cases h
theorem s_it (G : Gd t n C W X) {k : IK} {tg iter : Expr} {as : List Expr} {es : List CE} (h : itArgs X.env.scope k tg iter = some as) (he : PEs t C W X es as) : PI X tg iter (tI t X.K W k (evL C es)) := by
  by_cases hk : k = .seq
  · subst hk
    obtain ⟨h1, rfl⟩ := ite_some (show (if noStar iter = true then some [iter] else none) = some as from h)
    obtain ⟨e, rfl, _, p1⟩ := he.one
    simp only [evL]
    exact s_seq p1
  · obtain ⟨f, p, pos, rfl, hg, hc⟩ := itC hk h
    obtain ⟨pa, st, _⟩ := he.pa
    rcases hc with ⟨rfl, rfl, hl⟩ | ⟨rfl, rfl, hl⟩ | ⟨rfl, rfl, hl⟩ | ⟨rfl, rfl, hl, es', kk, tp, rfl⟩ | ⟨rfl, rfl, hl, es', kk, tp, rfl⟩
    · obtain ⟨a, rfl⟩ := len1 hl
      simp only [List.all_cons, List.all_nil, Bool.and_true] at st
      exact s_rng1 G hg st pa
    · obtain ⟨a, b, rfl⟩ := len2 hl
      simp only [List.all_cons, List.all_nil, Bool.and_true, Bool.and_eq_true] at st
      exact s_rng2 G hg st.1 st.2 pa
    · obtain ⟨a, b, c, rfl⟩ := len3 hl
      simp only [List.all_cons, List.all_nil, Bool.and_true, Bool.and_eq_true] at st
      exact s_rng3 G hg st.1 st.2.1 st.2.2 pa
    · obtain ⟨a, b, rfl⟩ := len2 hl
      simp only [List.all_cons, List.all_nil, Bool.and_true, Bool.and_eq_true] at st
      exact s_zip G hg st.1 st.2 pa
    · obtain ⟨a, rfl⟩ := len1 hl
      simp only [List.all_cons, List.all_nil, Bool.and_true] at st
      exact s_enum G hg st pa
theorem PTs.imp {ifs : List Expr} {u u' : TT} (h : PTs X ifs u) (i : ∀ σ H Q, u' σ H Q → u σ H Q) : PTs X ifs u' := ⟨fun pins s σ H Q I hq => h.run pins s σ H Q I (i σ H Q hq)⟩
theorem pt_of {e : Expr} {u : TT} (h : PW X e u) : PT X e u := ⟨fun pins s σ H Q I hq => h.run _ pins s σ H Q I hq⟩
theorem s_yes : PTs X [] (tT t X.K W (xCB true)) := PTs.imp pts_nil fun σ H Q ⟨ρ, s, m, rm, rs, q⟩ => RQ.okB q rm
end

section
variable {t : Tx} {n : Nx} {C : Ct}
theorem s_callA {W : WX} {X : Cx} (G : Gd t n C W X) {k : Nat} {f : Str} {as : List Expr} {es : List CE} {p pos : Pos} (hk : n.fnm[k]? = some f) (hg : glB X.env.scope f = true) (hn : nmB f = true) (q : PEs t C W X es as) : PE X (.Call (.Name f p) as [] pos) (tE t X.K W (xCall C k (evL C es))) := by
  obtain ⟨q1, q2, _⟩ := q.pa
  cases as with
  | nil =>
    have e1 := q.nil
    subst e1
    simp only [evL]
    exact s_call0 G hk hg hn
  | cons a as =>
    simp only [List.all_cons, Bool.and_eq_true] at q2
    exact s_call G hk hg hn q2.1 q2.2 q1
/-- the same with no lambda -/
def noLam (C : Ct) : Ct := { C with lamc := fun _ _ _ => .stuck }
theorem Gd.lamc {W : WX} {X : Cx} (G : Gd t n C W X) {lv : Nat} (fng : ∀ k x, n.fnm[k]? = some x → ∃ fd ps, Binds X.K fd ps [] ∧ FnG X.prog X.w X.K X.mg X.base lv (t.fa k) fd ps (spF t X.K (C.call k))) {A : Around} {outer : List Env} {z : Shared} {Hz : Hp} {E : XK} {lsc : Scope} {x c1 : Addr}
    (gu : A.guards = some []) (room : Room (lv + 1) (A.deeper (LamX.lamEnv X lsc z.heap.objs.size x c1))) : Gd t n (noLam C) (fun c d _ H => E c d H) (LamX.lamCx X A outer z Hz E lsc x c1) where
  N := G.N
  calm := rfl
  tk := L2.takes_of rfl rfl rfl rfl
  gu := gu
  un := by
    have q := room.un
    show (A.deeper (LamX.lamEnv X lsc z.heap.objs.size x c1)).units + 65 < cLine
    omega
  bi := G.bi
  glo := G.glo
  fns := G.fns
  fng := fun k y hk => by
    obtain ⟨fd, ps, h1, h2⟩ := fng k y hk
    exact ⟨lv, fd, ps, room, h1, h2⟩
  atn := G.atn
  fok := G.fok
  mth := G.mth
  ini := G.ini
  lam := fun _ _ _ => .inl fun _ _ => rfl
theorem noAr_ok {a : Arguments} (h : noAr a = true) : a = ⟨[], [], none, [], [], none, []⟩ := by
  unfold noAr at h
  split at h
  · rfl
  · cases h
theorem s_lam {W : WX} {X : Cx} (G : Gd t n C W X) {k : Nat} {y : Str} {p lpos pos : Pos} {lp : Arguments} {lb : Expr} {lsc : Scope} {b : CE} (hk : n.fnm[k]? = some y) (hg : glB X.env.scope y = true) (hn : nmB y = true) (ha : noAr lp = true) (hl : LamX.lamSB X.env.scope lsc = true)
    (hb : ∀ (W2 : WX) (X2 : Cx), Gd t n (noLam C) W2 X2 → X2.N = X.N → X2.env.scope = lsc → PE X2 lb (tE t X2.K W2 (evE C b))) : PE X (.Call (.Name y p) [.Lambda lp lb lsc lpos] [] pos) (tE t X.K W (xLam C k (evE C b))) := by
  have ea := noAr_ok ha
  subst ea
  obtain ⟨g1, g2⟩ := G.fns k y hk (nm_ne hn)
  have Ls := LamX.lamS_by hl
  refine ⟨fun pins s σ H Q I h => ?_⟩
  obtain ⟨ρ, s', m, rm, rs, q⟩ := h
  unfold xLam at q
  rcases G.lam k y hk with z | ⟨c, P, lv, fd, ps, fng, room, hc, TB, mT, uT, bd, L⟩
  · rw [z] at q
    exact False.elim q
  refine wpAny_Call_Name_kw (ld_glob I (gl_of hg) g1 ?_ (nm_of hn).1)
  refine PySem.W.callWith_K (h₀ := X.base) I.ok.mod.kin g2 ?_ (by rfl) (by rfl)
  show wpAny _ _ (spliced ((false, eval (.Lambda ⟨[], [], none, [], [], none, []⟩ lb lsc lpos) X.env) :: backTo pos (starEach [] X.env))) _ _ s
  refine Calls.spliced_cons (LamX.lam_make2 (T := t.tbs) I TB hc mT uT rm.tbs rfl (Ls.has I.ok) fun x c1 mo ct H1 s1 I1 eN T1 ox x0 x1 cc => ?_)
  refine Calls.spliced_nil ⟨I1.kIn, ?_⟩
  have ew : ExtW ρ H m.len ρ H1 := ⟨fun _ _ => rfl, fun a xs e => eN a _ e (fun _ z => by cases z), fun a o u e => eN a _ e (fun _ z => by cases z)⟩
  have e1 : Ext ρ H m.len ρ H1 m.len := ⟨fun _ _ => rfl, ew.tup, ew.frz, fun a o e z _ => eN a o e z, fun _ _ _ _ z => z⟩
  have rm1 : RelM t X.K ρ H1 m := by
    refine ⟨fun i o g => ⟨?_, (rm.ob i o g).2⟩, rm.inj, rm.esc, T1⟩
    have r := (rm.ob i o g).1
    refine RepO.keepW ew (rm.bel g) (fun u e => eN _ _ e fun w z => ?_) r
    subst z
    cases o with
    | lst ds => obtain ⟨_, r1, _⟩ := r; rw [r1] at e; cases e
    | dic ds => obtain ⟨_, r1, _⟩ := r; rw [r1] at e; cases e
    | ins c ds => obtain ⟨_, _, r1, _⟩ := r; rw [r1] at e; cases e
  have q1 : RQ srD t X.K (WE W σ) ρ H1 m.len (C.lamc k (evE C b s') m) Q := RQ.on q e1 (Nat.le_refl _)
  have act : Act t X.prog X.w X.K X.mg X.base X.A X.stack s1 H1 x (evE C b s') ρ m := fun Ng qg sg g cdg a pn xe W2 Eg p1 p2 hN hv na nb tk2 => by
    have z := act_pe (k := lv) (tb := fun E => tE t X.K (fun c d _ H => E c d H) (evE C b)) I1 Ls ox x0 x1 cc rfl room G.gu (fun A outer z Hz E gu2 room2 => hb _ _ (G.lamc fng gu2 room2) rfl rfl) (p1 := p1) (p2 := p2) hN hv na nb tk2
    refine PE.imp z fun σz Hz Qz ⟨z1, z2, z3⟩ => ⟨z1, z2, ρ, s', m, rm1, rs.ext e1 (Nat.le_refl _), z3⟩
  have lp1 := L.one
  have bnd := bd s1 [.ref x] I1.kIn (by simpa using lp1.symm)
  rw [List.append_nil] at bnd
  refine wpAny_call (codeAny_mono (L.run X.A X.stack s1 H1 ⟨[.ref x], []⟩ x _ ρ m Q _ (room.mono (by omega)) G.gu I1.env0 bnd rm1 act q1) fun r s2 hr => ?_)
  cases r with
  | error e => exact G.tk e s2 (XE.of_call I1 (fun _ _ _ z => z) hr)
  | ok fl =>
    cases fl with
    | ret u => exact I1.after hr
    | next => exact hr.elim
    | brk => exact hr.elim
    | cont => exact hr.elim
theorem tvalN {W : WX} {X : Cx} {e : CE} {x : Expr} (he : chkE n X.N e X.env.scope x = true → PE X x (tE t X.K W (evE C e))) (hc : cmpCE e = false) (h : chkT n X.N (.val e) X.env.scope x = true) : PT X x (tT t X.K W (evT C (.val e))) := by
  simp only [chkT, Bool.and_eq_true, Bool.or_eq_true] at h
  obtain ⟨h1, h2⟩ := h
  simp only [evT]
  rcases h2 with h2 | ⟨h2, _⟩
  · exact s_tval (he h1) h2
  · rw [hc] at h2
    cases h2
/-- a comprehension from its parts -/
theorem s_lcB {W : WX} {X : Cx} (G : Gd t n C W X) {elt tgx iter : Expr} {ifs : List Expr} {scope : Scope} {own : List Nat} {pos : Pos} {tg : TG} {k : IK} {es : List CE} {ts : List CT} {e : CE} (hb : blkC X.N X.env.scope scope (ownP X.N own) = true) (hs : noSet iter = true) (hi : PI X tgx iter (tI t X.K W k (evL C es)))
    (hg : chkG X.N (relS scope X.env.scope) (blkFn scope) tg tgx = true) (hn : tg.names.all (fun i => own.contains i) = true)
    (ht : ∀ (W : WX) (X' : Cx), X'.K = X.K → X'.N = X.N → X'.env.scope = relS scope X.env.scope → Gd t n C W X' → PTs X' ifs (tT t X'.K W (evTs C ts))) (he : ∀ (W : WX) (X' : Cx), X'.K = X.K → X'.N = X.N → X'.env.scope = relS scope X.env.scope → Gd t n C W X' → PE X' elt (tE t X'.K W (evE C e))) :
    PE X (.ListComp elt [⟨tgx, iter, ifs, 0⟩] scope pos) (tE t X.K W (xLc C own tg k (evL C es) (evTs C ts) (evE C e))) := by
  have e1 : (ownP X.N own).map (·.2) = own := by
    unfold ownP
    rw [List.map_map]
    exact List.map_id' _
  have q := s_lc (t := t) (own := ownP X.N own) (pos := pos) (k := k) (ts := evTs C ts) (e := evE C e) G hi (blkOk_by hb)
    (fun s H A cl fp => s_tg (X := X.blk s H scope (compEnvC scope cl A X.env) fp) G.N G.calm (fnB := blkFn scope) (fun x hx => hx) tg tgx hg)
    (fun s H A cl fp => ht W0 _ rfl rfl rfl (G.blk s H scope _ fp)) (fun s H A cl fp => he W0 _ rfl rfl rfl (G.blk s H scope _ fp)) hs (fun i hi => by
      rw [e1]
      have := List.all_eq_true.mp hn i hi
      simpa using this)
  rw [e1] at q
  exact q
theorem s_lc2B {W : WX} {X : Cx} (G : Gd t n C W X) {elt tgx iter tgx2 iter2 : Expr} {ifs ifs2 : List Expr} {scope : Scope} {own own2 : List Nat} {pos : Pos} {tg tg2 : TG} {k k2 : IK} {es es2 : List CE} {ts ts2 : List CT} {e : CE} (hb : blkC X.N X.env.scope scope (ownP X.N own) = true) (ho : own2.all (fun i => own.contains i) = true)
    (hs : noSet iter = true) (hs2 : noSet iter2 = true) (hi : PI X tgx iter (tI t X.K W k (evL C es)))
    (hg : chkG X.N (relS scope X.env.scope) (blkFn scope) tg tgx = true) (hn : tg.names.all (fun i => own.contains i) = true) (hg2 : chkG X.N (relS scope X.env.scope) (blkFn scope) tg2 tgx2 = true) (hn2 : tg2.names.all (fun i => own2.contains i) = true)
    (hi2 : ∀ (X' : Cx), X'.K = X.K → X'.N = X.N → X'.env.scope = relS scope X.env.scope → Gd t n C W0 X' → PI X' tgx2 iter2 (tI t X'.K W0 k2 (evL C es2)))
    (ht : ∀ (X' : Cx), X'.K = X.K → X'.N = X.N → X'.env.scope = relS scope X.env.scope → Gd t n C W0 X' → PTs X' ifs (tT t X'.K W0 (evTs C ts))) (ht2 : ∀ (X' : Cx), X'.K = X.K → X'.N = X.N → X'.env.scope = relS scope X.env.scope → Gd t n C W0 X' → PTs X' ifs2 (tT t X'.K W0 (evTs C ts2)))
    (he : ∀ (X' : Cx), X'.K = X.K → X'.N = X.N → X'.env.scope = relS scope X.env.scope → Gd t n C W0 X' → PE X' elt (tE t X'.K W0 (evE C e))) :
    PE X (.ListComp elt [⟨tgx, iter, ifs, 0⟩, ⟨tgx2, iter2, ifs2, 0⟩] scope pos) (tE t X.K W (xLc2 C own own2 tg k (evL C es) (evTs C ts) tg2 k2 (evL C es2) (evTs C ts2) (evE C e))) := by
  have e1 : (ownP X.N own).map (·.2) = own := by
    unfold ownP
    rw [List.map_map]
    exact List.map_id' _
  have q := s_lc2 (t := t) (own := ownP X.N own) (own2 := own2) (pos := pos) (k := k) (k2 := k2) (xes2 := evL C es2) (ts := evTs C ts) (ts2 := evTs C ts2) (e := evE C e) G hi (blkOk_by hb) (fun i hi => by
      rw [e1]
      have := List.all_eq_true.mp ho i hi
      simpa using this)
    (fun s H A cl fp => s_tg (X := X.blk s H scope (compEnvC scope cl A X.env) fp) G.N G.calm (fnB := blkFn scope) (fun x hx => hx) tg tgx hg)
    (fun s H A cl fp => ht _ rfl rfl rfl (G.blk s H scope _ fp)) (fun s H A cl fp => hi2 _ rfl rfl rfl (G.blk s H scope _ fp))
    (fun s H A cl fp => s_tg (X := X.blk s H scope (compEnvC scope cl A X.env) fp) G.N G.calm (fnB := blkFn scope) (fun x hx => hx) tg2 tgx2 hg2)
    (fun s H A cl fp => ht2 _ rfl rfl rfl (G.blk s H scope _ fp)) (fun s H A cl fp => he _ rfl rfl rfl (G.blk s H scope _ fp)) hs hs2 (fun i hi => by
      rw [e1]
      have := List.all_eq_true.mp hn i hi
      simpa using this) (fun i hi => by
      have := List.all_eq_true.mp hn2 i hi
      simpa using this)
  rw [e1] at q
  exact q
mutual
theorem sE : ∀ (c : CE) (W : WX) (X : Cx) (x : Expr), Gd t n C W X → chkE n X.N c X.env.scope x = true → PE X x (tE t X.K W (evE C c))
  | .var i, W, X, x, G, h => by
    cases x <;> simp only [chkE] at h <;> try (cases h; done)
    simp only [Bool.and_eq_true] at h
    exact s_var (of_decide_eq_true h.1) h.2.1 h.2.2
  | .int i, W, X, x, G, h => by
    cases x <;> simp only [chkE] at h <;> try (cases h; done)
    split at h
    · rename_i he
      have e := of_decide_eq_true h
      simp only [Expr.Constant.injEq] at he
      obtain ⟨rfl, rfl, rfl⟩ := he
      subst e
      exact s_c pe_int (fun _ _ => Rep.int) fun _ => bel_int
    · cases h
  | .bl b, W, X, x, G, h => by
    cases x <;> simp only [chkE] at h <;> try (cases h; done)
    split at h
    · rename_i he
      have e : b = _ := eq_of_beq h
      simp only [Expr.Constant.injEq] at he
      obtain ⟨rfl, rfl, rfl⟩ := he
      subst e
      exact s_c pe_bl (fun _ _ => Rep.bl) fun _ => bel_bl
    · cases h
  | .non, W, X, x, G, h => by
    cases x <;> simp only [chkE, isNoneC] at h <;> try (cases h; done)
    split at h
    · rename_i he
      simp only [Expr.Constant.injEq] at he
      obtain ⟨rfl, rfl, rfl⟩ := he
      exact s_c pe_non (fun _ _ => Rep.non) fun _ => bel_non
    · cases h
  | .str z, W, X, x, G, h => by
    cases x <;> simp only [chkE] at h <;> try (cases h; done)
    split at h
    · rename_i he
      have e := of_decide_eq_true h
      simp only [Expr.Constant.injEq] at he
      obtain ⟨rfl, rfl, rfl⟩ := he
      subst e
      exact s_c pe_str (fun _ _ => Rep.str) fun _ => bel_str
    · cases h
  | .glo k, W, X, x, G, h => by
    cases x <;> simp only [chkE] at h <;> try (cases h; done)
    simp only [Bool.and_eq_true] at h
    exact s_glo G (of_decide_eq_true h.1) h.2.1 h.2.2
  | .fnv k, W, X, x, G, h => by
    cases x <;> simp only [chkE] at h <;> try (cases h; done)
    simp only [Bool.and_eq_true] at h
    exact s_fnv G (of_decide_eq_true h.1) h.2.1 h.2.2
  | .pr p es, W, X, x, G, h => by
    simp only [chkE] at h
    split at h
    · exact s_prArgs G (by assumption) (sEs es W X _ G h)
    · cases h
  | .me p o es, W, X, x, G, h => by
    simp only [chkE] at h
    split at h
    · simp only [Bool.and_eq_true] at h
      exact s_meOk G h.1 h.2.1 h.2.2.1 (sE o W X _ G h.2.2.2.1) (sEs es W X _ G h.2.2.2.2)
    · cases h
  | .sl a lo hi, W, X, x, G, h => by
    simp only [chkE] at h
    split at h
    · simp only [Bool.and_eq_true] at h
      exact s_sl (sE a W X _ G h.1) (sP lo W X _ G h.2.1) (sP hi W X _ G h.2.2)
    · cases h
  | .rev a, W, X, x, G, h => by
    simp only [chkE] at h
    split at h
    · simp only [Bool.and_eq_true] at h
      have e := of_decide_eq_true h.1
      subst e
      exact s_rev (sE a W X _ G h.2)
    · cases h
  | .ofT c, W, X, x, G, h => by
    simp only [chkE] at h
    exact sV c W X x G h
  | .ite c a b, W, X, x, G, h => by
    simp only [chkE] at h
    split at h
    · simp only [Bool.and_eq_true] at h
      exact s_ite (sT c W X _ G h.1) (sE a W X _ G h.2.1) (sE b W X _ G h.2.2)
    · cases h
  | .chain p q a b c, W, X, x, G, h => by
    simp only [chkE] at h
    split at h
    · simp only [Bool.and_eq_true, Bool.not_eq_true'] at h
      exact s_chain G (of_decide_eq_true h.1) (of_decide_eq_true h.2.1) h.2.2.1 (sE a W X _ G h.2.2.2.1) (sE b W X _ G h.2.2.2.2.1) (sE c W X _ G h.2.2.2.2.2)
    · cases h
  | .tup es, W, X, x, G, h => by
    simp only [chkE] at h
    split at h
    · simp only [Bool.and_eq_true] at h
      exact s_tup (of_decide_eq_true h.1) (sEs es W X _ G h.2).pa.1
    · cases h
  | .lst es, W, X, x, G, h => by
    simp only [chkE] at h
    split at h
    · simp only [Bool.and_eq_true] at h
      exact s_lst (of_decide_eq_true h.1) (sEs es W X _ G h.2).pa.1
    · cases h
  | .dic ks vs, W, X, x, G, h => by
    simp only [chkE] at h
    split at h
    · exact s_dic
    · cases h
  | .call k es, W, X, x, G, h => by
    simp only [chkE] at h
    split at h
    · simp only [Bool.and_eq_true] at h
      exact s_callA G (of_decide_eq_true h.1) h.2.1 h.2.2.1 (sEs es W X _ G h.2.2.2)
    · cases h
  | .lc own tg k es ts e, W, X, x, G, h => by
    simp only [chkE] at h
    split at h
    · simp only [Bool.and_eq_true] at h
      obtain ⟨h1, h2, h3, h4, h5, h6, h7⟩ := h
      split at h3
      · refine s_lcB G h1 h2 (s_it G (by assumption) (sEs es W X _ G h3)) h4 h5 (fun W' X' e1 e2 e3 G' => ?_) fun W' X' e1 e2 e3 G' => ?_
        · exact sT1 ts W' X' _ G' (by rw [e2, e3]; exact h6)
        · exact sE e W' X' _ G' (by rw [e2, e3]; exact h7)
      · cases h3
    · cases h
  | .callV _ _, _, _, _, _, h => by simp only [chkE] at h; cases h
  | .lam k b, W, X, x, G, h => by
    simp only [chkE] at h
    split at h
    · simp only [Bool.and_eq_true] at h
      obtain ⟨h1, h2, h3, h4, h5, h6, h7⟩ := h
      simp only [evE]
      refine s_lam G (of_decide_eq_true h1) h2 h3 h4 h5 fun W2 X2 G2 eN eS => ?_
      cases b <;> simp only [qkB] at h6 <;> try (cases h6; done)
      rename_i j es
      simp only [chkE] at h7
      split at h7
      · simp only [Bool.and_eq_true] at h7
        rw [← eN, ← eS] at h7
        have z := fun p1 p2 => s_callA (p := p1) (pos := p2) G2 (of_decide_eq_true h7.1) h7.2.1 h7.2.2.1 (qk_oks (C := noLam C) es W2 X2 _ h6 h7.2.2.2)
        rw [← qk_evs C (noLam C) es h6] at z
        simp only [evE]
        exact z _ _
      · cases h7
    · cases h
  | .act _, _, _, _, _, h => by simp only [chkE] at h; cases h
  | .lc2 own own2 tg k es ts tg2 k2 es2 ts2 e, W, X, x, G, h => by
    simp only [chkE] at h
    split at h
    · simp only [Bool.and_eq_true] at h
      obtain ⟨h1, h2, h3, h4, h5, h6, h7, h8, h9, h10, h11, h12, h13⟩ := h
      split at h5
      · split at h6
        · refine s_lc2B G h1 h2 h3 h4 (s_it G (by assumption) (sEs es W X _ G h5)) h7 h8 h9 h10 (fun X' e1 e2 e3 G' => ?_) (fun X' e1 e2 e3 G' => ?_) (fun X' e1 e2 e3 G' => ?_) fun X' e1 e2 e3 G' => ?_
          · rename_i as2 ha2
            exact s_it (as := as2) G' (by rw [e3]; exact ha2) (sEs es2 W0 X' _ G' (by rw [e2, e3]; exact h6))
          · exact sT1 ts W0 X' _ G' (by rw [e2, e3]; exact h11)
          · exact sT1 ts2 W0 X' _ G' (by rw [e2, e3]; exact h12)
          · exact sE e W0 X' _ G' (by rw [e2, e3]; exact h13)
        · cases h6
      · cases h5
    · cases h
  | .efld _ _, _, _, _, _, h => by simp only [chkE] at h; cases h
  | .isx _ _, _, _, _, _, h => by simp only [chkE] at h; cases h
  | .fld o f, W, X, x, G, h => by
    simp only [chkE] at h
    split at h
    · simp only [Bool.and_eq_true, decide_eq_true_eq] at h
      exact s_fld G h.2.1 h.1 (sE o W X _ G h.2.2)
    · cases h
  | .meth o f es, W, X, x, G, h => by
    simp only [chkE] at h
    split at h
    · simp only [Bool.and_eq_true, decide_eq_true_eq] at h
      have hes := sEs es W X _ G h.2.2.2.2.2
      obtain ⟨q1, q2, _⟩ := hes.pa
      refine s_meth G h.2.2.1 h.1 h.2.1 q2 h.2.2.2.1 (sE o W X _ G h.2.2.2.2.1) q1 fun e0 => ?_
      rw [e0] at hes
      rw [hes.nil]
      simp only [evL]
    · cases h
  | .mk c es, W, X, x, G, h => by
    simp only [chkE] at h
    split at h
    · simp only [Bool.and_eq_true, decide_eq_true_eq] at h
      have hes := sEs es W X _ G h.2.2.2
      obtain ⟨q1, q2, _⟩ := hes.pa
      refine s_mk G h.1 h.2.1 h.2.2.1 q2 q1 fun e0 => ?_
      rw [e0] at hes
      rw [hes.nil]
      simp only [evL]
    · cases h
  | .cl _, _, _, _, _, h => by simp only [chkE] at h; cases h
termination_by structural c => c
theorem sP : ∀ (c : CP) (W : WX) (X : Cx) (x : Option Expr), Gd t n C W X → chkP n X.N c X.env.scope x = true → PO X x (tOo t X.K W (evO C c))
  | .non, W, X, x, G, h => by
    cases x with
    | none => exact s_noP
    | some y => simp only [chkP] at h; cases h
  | .at e, W, X, x, G, h => by
    cases x with
    | none => simp only [chkP] at h; cases h
    | some y =>
      simp only [chkP] at h
      exact s_at (sE e W X y G h)
theorem sEs : ∀ (cs : List CE) (W : WX) (X : Cx) (xs : List Expr), Gd t n C W X → chkEs n X.N cs X.env.scope xs = true → PEs t C W X cs xs
  | [], W, X, xs, G, h => by
    cases xs with
    | nil => trivial
    | cons x xs => simp only [chkEs] at h; cases h
  | c :: cs, W, X, xs, G, h => by
    cases xs with
    | nil => simp only [chkEs] at h; cases h
    | cons x xs =>
      simp only [chkEs, Bool.and_eq_true] at h
      exact ⟨h.1, sE c W X x G h.2.1, sEs cs W X xs G h.2.2⟩
theorem sT : ∀ (c : CT) (W : WX) (X : Cx) (x : Expr), Gd t n C W X → chkT n X.N c X.env.scope x = true → PT X x (tT t X.K W (evT C c))
  | .val (.pr p es), W, X, x, G, h => by
    simp only [chkT, Bool.and_eq_true, Bool.or_eq_true] at h
    obtain ⟨h1, h2⟩ := h
    rcases h2 with h2 | ⟨_, h2⟩
    · exact s_tval (sE (.pr p es) W X x G h1) h2
    · cases x <;> simp only [isCmp] at h2 <;> try (cases h2; done)
      simp only [chkE, prArgs] at h1
      split at h1
      · rename_i hq
        split at hq
        · obtain ⟨⟨z1, z2⟩, rfl⟩ := ite_some hq
          obtain ⟨e, f, rfl, _, _, p1, p2⟩ := (sEs es W X _ G h1).two
          exact s_tcmp G z1 z2 p1 p2
        · cases hq
      · cases h1
  | .val (.chain p q a b c), W, X, x, G, h => by
    simp only [chkT, Bool.and_eq_true, Bool.or_eq_true] at h
    obtain ⟨h1, h2⟩ := h
    rcases h2 with h2 | ⟨_, h2⟩
    · exact s_tval (sE (.chain p q a b c) W X x G h1) h2
    · simp only [chkE] at h1
      split at h1
      · simp only [Bool.and_eq_true, Bool.not_eq_true'] at h1
        exact s_tchain G (of_decide_eq_true h1.1) (of_decide_eq_true h1.2.1) h1.2.2.1 (sE a W X _ G h1.2.2.2.1) (sE b W X _ G h1.2.2.2.2.1) (sE c W X _ G h1.2.2.2.2.2)
      · cases h1
  | .val (.var a0), W, X, x, G, h => tvalN (sE (.var a0) W X x G) rfl h
  | .val (.int a0), W, X, x, G, h => tvalN (sE (.int a0) W X x G) rfl h
  | .val (.bl a0), W, X, x, G, h => tvalN (sE (.bl a0) W X x G) rfl h
  | .val .non, W, X, x, G, h => tvalN (sE .non W X x G) rfl h
  | .val (.str a0), W, X, x, G, h => tvalN (sE (.str a0) W X x G) rfl h
  | .val (.glo a0), W, X, x, G, h => tvalN (sE (.glo a0) W X x G) rfl h
  | .val (.fnv a0), W, X, x, G, h => tvalN (sE (.fnv a0) W X x G) rfl h
  | .val (.me a0 a1 a2), W, X, x, G, h => tvalN (sE (.me a0 a1 a2) W X x G) rfl h
  | .val (.sl a0 a1 a2), W, X, x, G, h => tvalN (sE (.sl a0 a1 a2) W X x G) rfl h
  | .val (.rev a0), W, X, x, G, h => tvalN (sE (.rev a0) W X x G) rfl h
  | .val (.ofT a0), W, X, x, G, h => tvalN (sE (.ofT a0) W X x G) rfl h
  | .val (.ite a0 a1 a2), W, X, x, G, h => tvalN (sE (.ite a0 a1 a2) W X x G) rfl h
  | .val (.tup a0), W, X, x, G, h => tvalN (sE (.tup a0) W X x G) rfl h
  | .val (.lst a0), W, X, x, G, h => tvalN (sE (.lst a0) W X x G) rfl h
  | .val (.dic a0 a1), W, X, x, G, h => tvalN (sE (.dic a0 a1) W X x G) rfl h
  | .val (.call a0 a1), W, X, x, G, h => tvalN (sE (.call a0 a1) W X x G) rfl h
  | .val (.callV a0 a1), W, X, x, G, h => tvalN (sE (.callV a0 a1) W X x G) rfl h
  | .val (.lam a0 a1), W, X, x, G, h => tvalN (sE (.lam a0 a1) W X x G) rfl h
  | .val (.act a0), W, X, x, G, h => tvalN (sE (.act a0) W X x G) rfl h
  | .val (.lc a0 a1 a2 a3 a4 a5), W, X, x, G, h => tvalN (sE (.lc a0 a1 a2 a3 a4 a5) W X x G) rfl h
  | .val (.lc2 a0 a1 a2 a3 a4 a5 a6 a7 a8 a9 a10), W, X, x, G, h => tvalN (sE (.lc2 a0 a1 a2 a3 a4 a5 a6 a7 a8 a9 a10) W X x G) rfl h
  | .val (.efld a0 a1), W, X, x, G, h => tvalN (sE (.efld a0 a1) W X x G) rfl h
  | .val (.isx a0 a1), W, X, x, G, h => tvalN (sE (.isx a0 a1) W X x G) rfl h
  | .val (.fld a0 a1), W, X, x, G, h => tvalN (sE (.fld a0 a1) W X x G) rfl h
  | .val (.meth a0 a1 a2), W, X, x, G, h => tvalN (sE (.meth a0 a1 a2) W X x G) rfl h
  | .val (.mk a0 a1), W, X, x, G, h => tvalN (sE (.mk a0 a1) W X x G) rfl h
  | .val (.cl a0), W, X, x, G, h => tvalN (sE (.cl a0) W X x G) rfl h
  | .not c, W, X, x, G, h => by
    simp only [chkT] at h
    split at h
    · exact s_tnot (sT c W X _ G h)
    · cases h
  | .and cs, W, X, x, G, h => by
    simp only [chkT] at h
    split at h
    · exact pt_of (sTa cs W X _ _ G h)
    · cases h
  | .or cs, W, X, x, G, h => by
    simp only [chkT] at h
    split at h
    · exact pt_of (sTo cs W X _ _ G h)
    · cases h
theorem sV : ∀ (c : CT) (W : WX) (X : Cx) (x : Expr), Gd t n C W X → chkV n X.N c X.env.scope x = true → PE X x (tE t X.K W (xOfT (evB C c)))
  | .val e, W, X, x, G, h => by
    simp only [chkV] at h
    exact s_vval (sE e W X x G h)
  | .not c, W, X, x, G, h => by
    simp only [chkV] at h
    split at h
    · exact s_vnot (sV c W X _ G h)
    · cases h
  | .and cs, W, X, x, G, h => by
    simp only [chkV] at h
    split at h
    · exact sVs cs W X _ _ G h
    · cases h
  | .or cs, W, X, x, G, h => by
    simp only [chkV] at h
    split at h
    · exact sVo cs W X _ _ G h
    · cases h
theorem sVs : ∀ (cs : List CT) (W : WX) (X : Cx) (xs : List Expr) (pos : Pos), Gd t n C W X → chkVs n X.N cs X.env.scope xs = true → PE X (.BoolOp .And xs pos) (tE t X.K W (xOfT (evAndB C cs)))
  | [], W, X, xs, pos, G, h => by simp only [chkVs] at h; cases h
  | c :: cs, W, X, xs, pos, G, h => by
    cases xs with
    | nil => simp only [chkVs] at h; cases h
    | cons x xs =>
      simp only [chkVs, Bool.and_eq_true] at h
      obtain ⟨h1, h2⟩ := h
      have p1 := sV c W X x G h1
      cases xs with
      | nil =>
        cases cs with
        | nil => exact s_vand1 p1
        | cons c2 cs => simp only [chkVs] at h2; cases h2
      | cons y ys =>
        have h3 : chkVs n X.N cs X.env.scope (y :: ys) = true := by cases cs <;> exact h2
        exact s_vand p1 (sVs cs W X (y :: ys) pos G h3)
theorem sVo : ∀ (cs : List CT) (W : WX) (X : Cx) (xs : List Expr) (pos : Pos), Gd t n C W X → chkVs n X.N cs X.env.scope xs = true → PE X (.BoolOp .Or xs pos) (tE t X.K W (xOfT (evOrB C cs)))
  | [], W, X, xs, pos, G, h => by simp only [chkVs] at h; cases h
  | c :: cs, W, X, xs, pos, G, h => by
    cases xs with
    | nil => simp only [chkVs] at h; cases h
    | cons x xs =>
      simp only [chkVs, Bool.and_eq_true] at h
      obtain ⟨h1, h2⟩ := h
      have p1 := sV c W X x G h1
      cases xs with
      | nil =>
        cases cs with
        | nil => exact s_vor1 p1
        | cons c2 cs => simp only [chkVs] at h2; cases h2
      | cons y ys =>
        have h3 : chkVs n X.N cs X.env.scope (y :: ys) = true := by cases cs <;> exact h2
        exact s_vor p1 (sVo cs W X (y :: ys) pos G h3)
theorem sTa : ∀ (cs : List CT) (W : WX) (X : Cx) (xs : List Expr) (pos : Pos), Gd t n C W X → chkTs n X.N cs X.env.scope xs = true → PW X (.BoolOp .And xs pos) (tT t X.K W (evAnd C cs))
  | [], W, X, xs, pos, G, h => by simp only [chkTs] at h; cases h
  | c :: cs, W, X, xs, pos, G, h => by
    cases xs with
    | nil => simp only [chkTs] at h; cases h
    | cons x xs =>
      simp only [chkTs, Bool.and_eq_true] at h
      obtain ⟨h1, h2⟩ := h
      have p1 := sT c W X x G h1
      cases xs with
      | nil =>
        cases cs with
        | nil => exact s_and1 p1
        | cons c2 cs => simp only [chkTs] at h2; cases h2
      | cons y ys =>
        have h3 : chkTs n X.N cs X.env.scope (y :: ys) = true := by cases cs <;> exact h2
        exact s_and p1 (sTa cs W X (y :: ys) pos G h3)
theorem sTo : ∀ (cs : List CT) (W : WX) (X : Cx) (xs : List Expr) (pos : Pos), Gd t n C W X → chkTs n X.N cs X.env.scope xs = true → PW X (.BoolOp .Or xs pos) (tT t X.K W (evOr C cs))
  | [], W, X, xs, pos, G, h => by simp only [chkTs] at h; cases h
  | c :: cs, W, X, xs, pos, G, h => by
    cases xs with
    | nil => simp only [chkTs] at h; cases h
    | cons x xs =>
      simp only [chkTs, Bool.and_eq_true] at h
      obtain ⟨h1, h2⟩ := h
      have p1 := sT c W X x G h1
      cases xs with
      | nil =>
        cases cs with
        | nil => exact s_or1 p1
        | cons c2 cs => simp only [chkTs] at h2; cases h2
      | cons y ys =>
        have h3 : chkTs n X.N cs X.env.scope (y :: ys) = true := by cases cs <;> exact h2
        exact s_or p1 (sTo cs W X (y :: ys) pos G h3)
theorem sT1 : ∀ (cs : List CT) (W : WX) (X : Cx) (xs : List Expr), Gd t n C W X → chkT1 n X.N cs X.env.scope xs = true → PTs X xs (tT t X.K W (evTs C cs))
  | [], W, X, xs, G, h => by
    cases xs with
    | nil => exact s_yes
    | cons x xs => simp only [chkT1] at h; cases h
  | c :: cs, W, X, xs, G, h => by
    simp only [chkT1] at h
    split at h
    · exact pts_one (sT c W X _ G h)
    · cases h
end
end
end NV

set_option Elab.async false
set_option linter.all false
set_option maxRecDepth 100000
set_option maxHeartbeats 4000000
/-! NvStm: what a statement of the text does, by the evaluator's words; each form alone. -/
namespace NV
open PySem PySem.Spec PyProof.Rows L2

/-- what a statement's evaluation promises -/
def RQS (t : Tx) (K : PySem.W.Frag) (W : WX) (De : Ends) (ρ : Pl) (H : Hp) (n : Nat) (r : Rt) : Prop :=
  match r with
  | .next s' m' => ∀ ρ' H' σ', Ext ρ H n ρ' H' m'.len → RelM t K ρ' H' m' → RelS t K ρ' H' m'.len s' σ' → n ≤ m'.len → De.nx σ' H'
  | .brk s' m' => ∀ ρ' H' σ', Ext ρ H n ρ' H' m'.len → RelM t K ρ' H' m' → RelS t K ρ' H' m'.len s' σ' → n ≤ m'.len → De.bk σ' H'
  | .ret d m' => ∀ ρ' H' v, Ext ρ H n ρ' H' m'.len → RelM t K ρ' H' m' → Rep t K ρ' H' d v → d.bel m'.len → n ≤ m'.len → De.rt v H'
  | .exc c fs s' m' => ∀ ρ' H' σ' od, Ext ρ H n ρ' H' m'.len → RelM t K ρ' H' m' → RelS t K ρ' H' m'.len s' σ' → RepX t K ρ' H' od fs → belFs m'.len fs → n ≤ m'.len → W (.ref (t.ca c)) od σ' H'
  | .stuck => False
def tS (t : Tx) (K : PySem.W.Frag) (W : WX) (x : Sx) : TS := fun De σ H => ∃ ρ s m, RelM t K ρ H m ∧ RelS t K ρ H m.len s σ ∧ RQS t K W De ρ H m.len (x s m)
section
variable {t : Tx} {K : PySem.W.Frag} {W : WX} {De : Ends} {ρ ρ1 : Pl} {H H1 : Hp} {n n1 : Nat}
theorem RQS.on {r : Rt} (h : RQS t K W De ρ H n r) (e : Ext ρ H n ρ1 H1 n1) (hn : n ≤ n1) : RQS t K W De ρ1 H1 n1 r := by
  cases r with
  | next s m => exact fun ρ' H' σ' e' rm rs hl => h ρ' H' σ' (e.trans e' hn) rm rs (Nat.le_trans hn hl)
  | brk s m => exact fun ρ' H' σ' e' rm rs hl => h ρ' H' σ' (e.trans e' hn) rm rs (Nat.le_trans hn hl)
  | ret d m => exact fun ρ' H' v e' rm rp bl hl => h ρ' H' v (e.trans e' hn) rm rp bl (Nat.le_trans hn hl)
  | exc c fs s m => exact fun ρ' H' σ' od e' rm rs rx bl hl => h ρ' H' σ' od (e.trans e' hn) rm rs rx bl (Nat.le_trans hn hl)
  | stuck => exact h
/-- a value, then .. -/
theorem RQS.then {α β : Type} {S : Srt α β} {r : Rs α} {s : Sl} {σ : L2.St} {m : Mem} {f : α → Mem → Rt} {Q : β → Hp → Prop} (rs : RelS t K ρ H m.len s σ) (h : RQS t K W De ρ H m.len (r.then s f))
    (k : ∀ d m1 ρ1 H1 v, r = .ok d m1 → Ext ρ H m.len ρ1 H1 m1.len → RelM t K ρ1 H1 m1 → RelS t K ρ1 H1 m1.len s σ → S.rp t K ρ1 H1 d v → S.bl m1.len d → m.len ≤ m1.len → RQS t K W De ρ1 H1 m1.len (f d m1) → Q v H1) : RQ S t K (WE W σ) ρ H m.len r Q := by
  cases r with
  | ok d m1 => exact fun ρ1 H1 v e rm rp bl hl => k d m1 ρ1 H1 v rfl e rm (rs.ext e hl) rp bl hl (RQS.on (show RQS t K W De ρ H m.len (f d m1) from h) e hl)
  | exc c fs m' => exact fun ρ1 H1 od e rm rx bl hl => h ρ1 H1 σ od e rm (rs.ext e hl) rx bl hl
  | stuck => exact h
theorem RQS.next {s : Sl} {m : Mem} {σ : L2.St} (h : RQS t K W De ρ H m.len (.next s m)) (rm : RelM t K ρ H m) (rs : RelS t K ρ H m.len s σ) : De.nx σ H := h ρ H σ Ext.refl rm rs (Nat.le_refl _)
/-- .. what follows still from the start -/
theorem RQS.then0 {α β : Type} {S : Srt α β} {r : Rs α} {s : Sl} {σ : L2.St} {m : Mem} {f : α → Mem → Rt} {Q : β → Hp → Prop} (rs : RelS t K ρ H m.len s σ) (h : RQS t K W De ρ H m.len (r.then s f))
    (k : ∀ d m1 ρ1 H1 v, r = .ok d m1 → Ext ρ H m.len ρ1 H1 m1.len → RelM t K ρ1 H1 m1 → S.rp t K ρ1 H1 d v → S.bl m1.len d → m.len ≤ m1.len → RQS t K W De ρ H m.len (f d m1) → Q v H1) : RQ S t K (WE W σ) ρ H m.len r Q := by
  cases r with
  | ok d m1 => exact fun ρ1 H1 v e rm rp bl hl => k d m1 ρ1 H1 v rfl e rm rp bl hl h
  | exc c fs m' => exact fun ρ1 H1 od e rm rx bl hl => h ρ1 H1 σ od e rm (rs.ext e hl) rx bl hl
  | stuck => exact h
/-- the value's memory let go -/
theorem clean_ok {d : D} {v : V} {m m1 : Mem} (he : ∀ p ∈ m.wr, p.2 ≤ m.len) (e : Ext ρ H m.len ρ1 H1 m1.len) (rm : RelM t K ρ1 H1 m1) (rp : Rep t K ρ1 H1 d v) (bl : d.bel m1.len) (hl : m.len ≤ m1.len) :
    ∃ d' m' ρ', clean m d m1 = .ok d' m' ∧ Ext ρ H m.len ρ' H1 m'.len ∧ RelM t K ρ' H1 m' ∧ Rep t K ρ' H1 d' v ∧ d'.bel m'.len ∧ m.len ≤ m'.len := by
  unfold clean
  cases hn : d.nl with
  | true =>
    obtain ⟨q1, q2⟩ := cln_ok rm he hl
    exact ⟨d, _, ρ1, rfl, e.trim len_cln, q1, rp, D.bel_nl d hn, q2⟩
  | false =>
    cases d <;> try exact ⟨_, m1, ρ1, rfl, e, rm, rp, bl, hl⟩
    rename_i k
    simp only
    cases g : m1.get k with
    | none => exact ⟨_, m1, ρ1, rfl, e, rm, rp, bl, hl⟩
    | some o =>
      simp only
      by_cases c : (newW m.len m.wr m1.wr && (Nat.ble m.len k && o.nl)) = true
      · rw [if_pos c]
        simp only [Bool.and_eq_true, beq_iff_eq, Nat.ble_eq] at c
        obtain ⟨c1, c2, c3⟩ := c
        have ev := rep_loc rp
        subst ev
        have rt := rm.take hl c1 he
        have lt : (m1.take m.len m.wr).len = m.len := len_take hl
        have kl := get_lt g
        have ew : ExtW ρ1 H1 m.len (plAt ρ1 m.len (ρ1 k)) H1 := ⟨fun j hj => plAt_ne (Nat.ne_of_lt hj), fun _ _ e => e, fun _ _ _ e => e⟩
        refine ⟨.loc m.len, _, plAt ρ1 m.len (ρ1 k), rfl, ?_, ?_, ?_, ?_, ?_⟩
        · rw [len_push, lt]
          refine ⟨fun j hj => (plAt_ne (Nat.ne_of_lt hj)).trans (e.pl j hj), e.tup, e.frz, e.frm, fun a u ha w kk j hj => ?_⟩
          by_cases hjm : j = m.len
          · rw [hjm, plAt_same]
            exact e.new a u ha w kk k kl
          · rw [plAt_ne hjm]
            exact e.new a u ha w kk j (by omega)
        · refine ⟨fun j u hj => ?_, fun i j oi oj g1 g2 r1 r2 ee => ?_, by rw [len_push]; exact fun p hp => Nat.le_succ_of_le (rt.esc p hp), rt.tbs⟩
          · rw [get_push, lt] at hj
            by_cases hjm : j = m.len
            · rw [if_pos hjm] at hj
              cases hj
              subst hjm
              rw [plAt_same]
              have q := (rm.ob k o g).1
              exact ⟨RepO.keepW (n := m.len) ew (Ob.bel_nl o c3) (fun _ z => z) q, Ob.bel_nl o c3⟩
            · rw [if_neg hjm] at hj
              have jl : j < m.len := by rw [← lt]; exact get_lt hj
              rw [plAt_ne hjm]
              exact ⟨RepO.keepW (n := m.len) ew (by rw [← lt]; exact rt.bel hj) (fun _ z => z) (rt.ob j u hj).1, (rt.ob j u hj).2⟩
          · have up : ∀ {i : Nat} {u : Ob}, (m1.take m.len m.wr).get i = some u → m1.get i = some u := fun {i u} h => by
              rw [get_take] at h
              split at h
              · exact h
              · cases h
            rw [get_push, lt] at g1 g2
            by_cases ci : i = m.len
            · by_cases cj : j = m.len
              · rw [ci, cj]
              · rw [if_neg cj] at g2
                have jl : j < m.len := by rw [← lt]; exact get_lt g2
                rw [ci, plAt_same, plAt_ne cj] at ee
                have := rm.inj k j _ _ g (up g2) rfl rfl ee
                omega
            · rw [if_neg ci] at g1
              have il : i < m.len := by rw [← lt]; exact get_lt g1
              by_cases cj : j = m.len
              · rw [cj, plAt_same, plAt_ne ci] at ee
                have := rm.inj i k _ _ (up g1) g rfl rfl ee
                omega
              · rw [if_neg cj] at g2
                rw [plAt_ne ci, plAt_ne cj] at ee
                exact rt.inj i j oi oj g1 g2 r1 r2 ee
        · simp only [Rep]
          rw [plAt_same]
        · simp only [D.bel]
          rw [len_push, lt]
          exact Nat.lt_succ_self _
        · rw [len_push, lt]
          exact Nat.le_succ _
      · rw [if_neg c]
        exact ⟨_, m1, ρ1, rfl, e, rm, rp, bl, hl⟩
/-- a value cleaned, then .. -/
theorem RQS.cleanThen {r : Rs D} {s : Sl} {σ : L2.St} {m : Mem} {f : D → Mem → Rt} {Q : VK} (he : ∀ p ∈ m.wr, p.2 ≤ m.len) (rs : RelS t K ρ H m.len s σ) (h : RQS t K W De ρ H m.len ((r.bind (clean m)).then s f))
    (k : ∀ d m1 ρ1 H1 v, Ext ρ H m.len ρ1 H1 m1.len → RelM t K ρ1 H1 m1 → RelS t K ρ1 H1 m1.len s σ → Rep t K ρ1 H1 d v → d.bel m1.len → m.len ≤ m1.len → RQS t K W De ρ1 H1 m1.len (f d m1) → Q v H1) : RQ srD t K (WE W σ) ρ H m.len r Q := by
  cases r with
  | ok d m1 =>
    intro ρ1 H1 v e rm rp bl hl
    obtain ⟨d', m', ρ', e1, e2, rm2, rp2, bl2, hl2⟩ := clean_ok he e rm rp bl hl
    have h' : RQS t K W De ρ H m.len ((clean m d m1).then s f) := h
    rw [e1] at h'
    exact k d' m' ρ' H1 v e2 rm2 (rs.ext e2 hl2) rp2 bl2 hl2 (RQS.on (show RQS t K W De ρ H m.len (f d' m') from h') e2 hl2)
  | exc c fs m' => exact fun ρ1 H1 od e rm rx bl hl => h ρ1 H1 σ od e rm (rs.ext e hl) rx bl hl
  | stuck => exact h
end
section
variable {t : Tx} {n : Nx} {C : Ct} {W : WX} {X : Cx}
theorem PS.imp {st : Stmt} {u u' : TS} (h : PS X st u) (i : ∀ De σ H, u' De σ H → u De σ H) : PS X st u' := ⟨fun pins s σ H De I hq => h.run pins s σ H De I (i De σ H hq)⟩
theorem PSs.imp {sts : List Stmt} {u u' : TS} (h : PSs X sts u) (i : ∀ De σ H, u' De σ H → u De σ H) : PSs X sts u' := ⟨fun pins s σ H De I hq => h.run pins s σ H De I (i De σ H hq)⟩
theorem z_pass {pos : Pos} : PS X (.Pass pos) (tS t X.K W sPass) := PS.imp ps_pass fun De σ H ⟨ρ, s, m, rm, rs, q⟩ => q.next rm rs
theorem z_doc {x : Str} {j : Nat} {pos pos' : Pos} : PS X (.Expr (.Constant (.str x) j pos) pos') (tS t X.K W sPass) := PS.imp ps_doc fun De σ H ⟨ρ, s, m, rm, rs, q⟩ => q.next rm rs
theorem z_brk {pos : Pos} : PS X (.Break pos) (tS t X.K W .brk) := PS.imp ps_break fun De σ H ⟨ρ, s, m, rm, rs, q⟩ => q ρ H σ Ext.refl rm rs (Nat.le_refl _)
theorem z_retN {pos : Pos} : PS X (.Return none pos) (tS t X.K W fun _ m => .ret .non m) :=
  PS.imp ps_retN fun De σ H ⟨ρ, s, m, rm, rs, q⟩ => q ρ H .non Ext.refl rm (show Rep t X.K ρ H .non .non from Rep.non) bel_non (Nat.le_refl _)
theorem z_ret {e : Expr} {x : Ex} {pos : Pos} (he : PE X e (tE t X.K W x)) : PS X (.Return (some e) pos) (tS t X.K W (sRet x)) := by
  refine PS.imp (ps_ret he) fun De σ H ⟨ρ, s, m, rm, rs, q⟩ => ⟨ρ, s, m, rm, rs, ?_⟩
  exact RQS.then rs q fun d m1 ρ1 H1 v _ _ rm1 _ rp bl _ q1 => q1 ρ1 H1 v Ext.refl rm1 rp bl (Nat.le_refl _)
def noComp : Expr → Bool
  | .ListComp _ _ _ _ => false
  | .SetComp _ _ _ _ => false
  | .DictComp _ _ _ _ _ => false
  | _ => true
theorem comp_of {e : Expr} (h : noComp e = true) (tg : Option Expr) (l : Nat) (env : Env) : swapsWith e tg l env = pure false := by
  cases e <;> first | rfl | cases h
theorem z_expr {e : Expr} {x : Ex} {pos : Pos} (hc : noComp e = true) (he : PE X e (tE t X.K W x)) : PS X (.Expr e pos) (tS t X.K W (sExpr x)) := by
  refine PS.imp (ps_expr he (comp_of hc _ _ _)) fun De σ H ⟨ρ, s, m, rm, rs, q⟩ => ⟨ρ, s, m, rm, rs, ?_⟩
  refine RQS.then0 (S := srD) rs q fun d m1 ρ1 H1 v _ e1 rm1 _ _ hl q1 => ?_
  obtain ⟨z1, z2⟩ := cln_ok rm1 rm.esc hl
  have e3 := e1.trim (len_cln (m := m))
  exact q1 ρ1 H1 σ e3 z1 (rs.ext e3 z2) z2
theorem RelS.get {K : PySem.W.Frag} {ρ : Pl} {H : Hp} {k : Nat} {s : Sl} {σ : L2.St} (rs : RelS t K ρ H k s σ) {i : Nat} {d : NV.D} (h : getS s i = some d) : ∃ v, σ[i]? = some (some v) ∧ Rep t K ρ H d v ∧ d.bel k := getS_slot rs h
/-- a value laid into a target -/
theorem asg_imp {g : TG} {x : Ex} {De : Ends} {σ : L2.St} {H : Hp} (q : tS t X.K W (sAsg g x) De σ H) : tAsg (tE t X.K W x) (tG t X.K g) De σ H := by
  obtain ⟨ρ, s, m, rm, rs, q⟩ := q
  unfold sAsg at q
  refine ⟨ρ, s, m, rm, rs, RQS.cleanThen rm.esc rs q fun d m1 ρ1 H1 v e1 rm1 rs1 rp bl hl q1 => ?_⟩
  cases ha : asgT g d s with
  | none => simp only [ha] at q1; exact False.elim q1
  | some s' =>
    simp only [ha] at q1
    exact ⟨ρ1, s, d, m1.len, s', rs1, rp, bl, ha, fun σ' rs' _ => q1 ρ1 H1 σ' Ext.refl rm1 rs' (Nat.le_refl _)⟩
theorem z_if {c : Expr} {a b : List Stmt} {xc : ExB} {xa xb : Sx} {pos : Pos} (hc : PT X c (tT t X.K W xc)) (ha : PSs X a (tS t X.K W xa)) (hb : PSs X b (tS t X.K W xb)) : PS X (.If c a b pos) (tS t X.K W (sIf xc xa xb)) := by
  refine PS.imp (ps_if hc ha hb) fun De σ H ⟨ρ, s, m, rm, rs, q⟩ => ⟨ρ, s, m, rm, rs, ?_⟩
  refine RQS.then0 (S := srB) rs q fun d m1 ρ1 H1 v _ e1 rm1 rp _ hl q1 => ?_
  have ev : v = d := rp
  obtain ⟨z1, z2⟩ := cln_ok rm1 rm.esc hl
  have e2 := e1.trim (len_cln (m := m))
  rw [ev]
  cases d with
  | true => exact (if_pos rfl).mpr ⟨ρ1, s, _, z1, rs.ext e2 z2, RQS.on q1 e2 z2⟩
  | false => exact (if_neg Bool.false_ne_true).mpr ⟨ρ1, s, _, z1, rs.ext e2 z2, RQS.on q1 e2 z2⟩
theorem z_nil : PSs X [] (tS t X.K W sPass) := PSs.imp pss_nil fun De σ H ⟨ρ, s, m, rm, rs, q⟩ => q.next rm rs
/-- one after another -/
theorem RQS.seq {K : PySem.W.Frag} {De : Ends} {ρ : Pl} {H : Hp} {k : Nat} {r : Rt} {f : Sl → Mem → Rt} {De2 : Ends} (h : RQS t K W De ρ H k (r.and f)) (h1 : De2.bk = De.bk) (h2 : De2.rt = De.rt)
    (kk : ∀ s' m' ρ' H' σ', Ext ρ H k ρ' H' m'.len → RelM t K ρ' H' m' → RelS t K ρ' H' m'.len s' σ' → k ≤ m'.len → RQS t K W De ρ H k (f s' m') → De2.nx σ' H') : RQS t K W De2 ρ H k r := by
  cases r with
  | next s' m' => exact fun ρ' H' σ' e rm rs hl => kk s' m' ρ' H' σ' e rm rs hl h
  | brk s' m' =>
    have h' : RQS t K W De ρ H k (.brk s' m') := h
    intro ρ' H' σ' e rm rs hl
    rw [h1]
    exact h' ρ' H' σ' e rm rs hl
  | ret d m' =>
    have h' : RQS t K W De ρ H k (.ret d m') := h
    intro ρ' H' v e rm rp bl hl
    rw [h2]
    exact h' ρ' H' v e rm rp bl hl
  | exc c fs s' m' => exact h
  | stuck => exact h
theorem z_cons {st : Stmt} {sts : List Stmt} {a b : Sx} (h1 : PS X st (tS t X.K W a)) (h2 : PSs X sts (tS t X.K W b)) : PSs X (st :: sts) (tS t X.K W (sSeq a b)) := by
  refine PSs.imp (pss_cons h1 h2) fun De σ H ⟨ρ, s, m, rm, rs, q⟩ => ⟨ρ, s, m, rm, rs, ?_⟩
  unfold sSeq at q
  exact RQS.seq q rfl rfl fun s' m' ρ' H' σ' e rm' rs' hl q1 => ⟨ρ', s', m', rm', rs', RQS.on q1 e hl⟩

/-! ### while -/
theorem z_while {c : Expr} {body : List Stmt} {xc : ExB} {xb : Sx} {fu : Nat} {pos : Pos} (hp : PassesOwn (model X.prog X.w) X.A X.env X.xe) (hc : PT X c (tT t X.K W xc)) (hb : PSs X body (tS t X.K W xb)) : PS X (.While c body [] pos) (tS t X.K W (whlI xc xb fu)) := by
  refine PS.imp (ps_while hp hc hb) fun De σ H ⟨ρ, s, m, rm, rs, q⟩ => ?_
  refine ⟨fun k σ' H' => ∃ ρ' s' m', RelM t X.K ρ' H' m' ∧ RelS t X.K ρ' H' m'.len s' σ' ∧ RQS t X.K W De ρ' H' m'.len (whlI xc xb k s' m'), ⟨fu, ρ, s, m, rm, rs, q⟩, ?_⟩
  rintro k σ1 H1 ⟨ρ1, s1, m1, rm1, rs1, q1⟩
  cases k with
  | zero => exact False.elim q1
  | succ k =>
    refine ⟨ρ1, s1, m1, rm1, rs1, ?_⟩
    refine RQS.then0 (S := srB) rs1 (show RQS t X.K W De ρ1 H1 m1.len ((xc s1 m1).then s1 _) from q1) fun d m2 ρ2 H2 v _ e2 rm2 rp _ hl2 q2 => ?_
    have ev : v = d := rp
    obtain ⟨z1, z2⟩ := cln_ok rm2 rm1.esc hl2
    have e3 := e2.trim (len_cln (m := m1))
    rw [ev]
    cases d with
    | false => exact (if_neg Bool.false_ne_true).mpr (q2 ρ2 H2 σ1 e3 z1 (rs1.ext e3 z2) z2)
    | true =>
      refine (if_pos rfl).mpr ⟨fun σ' H' => ∃ ρ' s' m', RelM t X.K ρ' H' m' ∧ RelS t X.K ρ' H' m'.len s' σ' ∧ RQS t X.K W De ρ' H' m'.len (whlI xc xb k s' m'), fun σ' H' h => ⟨k, Nat.lt_succ_self k, h⟩, ρ2, s1, _, z1, rs1.ext e3 z2, ?_⟩
      have q3 := RQS.on q2 e3 z2
      simp only at q3
      cases hr : xb s1 (cln m1 m2) with
      | next s' m' =>
        rw [hr] at q3
        exact fun ρ' H' σ' e rm' rs' hl => ⟨ρ', s', m', rm', rs', RQS.on q3 e hl⟩
      | brk s' m' =>
        rw [hr] at q3
        exact q3
      | ret d m' =>
        rw [hr] at q3
        exact q3
      | exc c fs s' m' =>
        rw [hr] at q3
        exact q3
      | stuck =>
        rw [hr] at q3
        exact q3

/-! ### for -/
def forAt (b : Sl → Mem → Rt) (g : TG) (it : It) (i k : Nat) (s : Sl) (m : Mem) : Rt := match it with
  | .fixed xs => forF b g (xs.drop i) s m
  | it => forI b g it k i s m
/-- what a body's end gives a loop -/
def loopR (r : Rt) (f : Sl → Mem → Rt) : Rt := match r with
  | .next s2 m2 => f s2 m2
  | .brk s2 m2 => .next s2 m2
  | r => r
theorem forAt_step (b : Sl → Mem → Rt) (g : TG) (it : It) (i k : Nat) (s : Sl) (m : Mem) (h : okK it i k) : (itAt it i m = some none ∧ forAt b g it i k s m = .next s m) ∨
    (∃ x, itAt it i m = some (some x) ∧ ∃ s1, asgT g x s = some s1 ∧ ∃ k', k' < k ∧ okK it (i + 1) k' ∧ forAt b g it i k s m = loopR (b s1 m) fun s2 m2 => forAt b g it (i + 1) k' s2 m2) ∨ forAt b g it i k s m = .stuck := by
  have dyn : ∀ (it : It) (k : Nat), (∀ i k s m, forAt b g it i k s m = forI b g it k i s m) → (∀ i k, okK it i k) → (itAt it i m = some none ∧ forAt b g it i k s m = .next s m) ∨
    (∃ x, itAt it i m = some (some x) ∧ ∃ s1, asgT g x s = some s1 ∧ ∃ k', k' < k ∧ okK it (i + 1) k' ∧ forAt b g it i k s m = loopR (b s1 m) fun s2 m2 => forAt b g it (i + 1) k' s2 m2) ∨ forAt b g it i k s m = .stuck := by
    intro it k he ok
    cases k with
    | zero => exact .inr (.inr (by rw [he]; rfl))
    | succ k =>
      cases e : itAt it i m with
      | none => exact .inr (.inr (by rw [he]; simp only [forI, e]))
      | some o =>
        cases o with
        | none => exact .inl ⟨rfl, by rw [he]; simp only [forI, e]⟩
        | some x =>
          cases ha : asgT g x s with
          | none => exact .inr (.inr (by rw [he]; simp only [forI, e, ha]))
          | some s1 =>
            refine .inr (.inl ⟨x, rfl, s1, ha, k, Nat.lt_succ_self k, ok _ _, ?_⟩)
            rw [he]
            simp only [forI, e, ha, he]
            unfold loopR
            cases b s1 m <;> rfl
  cases it with
  | fixed xs =>
    have hk : k = xs.length - i := h
    cases e : xs[i]? with
    | none =>
      refine .inl ⟨by simp only [itAt, e], ?_⟩
      show forF b g (xs.drop i) s m = _
      rw [List.drop_eq_nil_of_le (List.getElem?_eq_none_iff.mp e)]
      rfl
    | some x =>
      have hl := (List.getElem?_eq_some_iff.mp e).1
      have ex : xs[i] = x := (List.getElem?_eq_some_iff.mp e).2
      have hd : forAt b g (.fixed xs) i k s m = forF b g (x :: xs.drop (i + 1)) s m := by
        show forF b g (xs.drop i) s m = _
        rw [List.drop_eq_getElem_cons hl, ex]
      cases ha : asgT g x s with
      | none => exact .inr (.inr (by rw [hd]; simp only [forF, ha]))
      | some s1 =>
        refine .inr (.inl ⟨x, by simp only [itAt, e], s1, ha, k - 1, by omega, by show k - 1 = _; omega, ?_⟩)
        rw [hd]
        simp only [forF, ha]
        unfold loopR
        cases b s1 m <;> rfl
  | dyn a => exact dyn _ _ (fun _ _ _ _ => rfl) fun _ _ => trivial
  | dyn2 a b => exact dyn _ _ (fun _ _ _ _ => rfl) fun _ _ => trivial
  | dynE a => exact dyn _ _ (fun _ _ _ _ => rfl) fun _ _ => trivial
theorem forRun_at (b : Sl → Mem → Rt) (g : TG) (it : It) (fu : Nat) (s : Sl) (m : Mem) : ∃ k, okK it 0 k ∧ forRun fu b g it s m = forAt b g it 0 k s m := by
  cases it with
  | fixed xs => exact ⟨xs.length, rfl, by show forF b g xs s m = forF b g (xs.drop 0) s m; rw [List.drop_zero]⟩
  | _ => exact ⟨fu, trivial, rfl⟩
theorem for_imp {g : TG} {k : IK} {xes : ExL} {xb : Sx} {De : Ends} {σ : L2.St} {H : Hp} (q : tS t X.K W (sFor C g k xes xb) De σ H) : tFor (tI t X.K W k xes) (tG t X.K g) (tS t X.K W xb) De σ H := by
  obtain ⟨ρ, s, m, rm, rs, q⟩ := q
  unfold sFor at q
  refine ⟨ρ, s, m, rm, rs, ?_⟩
  have key : ∀ ds m1 ρ1 H1, Ext ρ H m.len ρ1 H1 m1.len → RelM t X.K ρ1 H1 m1 → m.len ≤ m1.len → RQS t X.K W De ρ1 H1 m1.len (match itOf k ds m1 with
    | none => .stuck
    | some it => forRun C.fu xb g it s m1) → ∃ it, itOf k ds m1 = some it ∧ ∀ J, ItR t X.K it J ρ1 H1 m1.len →
      ∃ W' : Nat → Nat → L2.St → Hp → Prop, (∃ m, W' 0 m σ H1) ∧ ∀ i m σ H, W' i m σ H → (J.stop i H ∧ De.nx σ H) ∨ (J.go i H ∧ ∃ N : L2.St → Hp → Prop, (∀ σ' H', N σ' H' → ∃ m', m' < m ∧ W' (i + 1) m' σ' H') ∧
        ∀ x H', J.yld i H x H' → tG t X.K g x σ H' fun σ2 H2 => tS t X.K W xb { De with nx := N, ct := N, bk := De.nx } σ2 H2) := by
    intro ds m1 ρ1 H1 ex rm1 hl q1
    cases hit : itOf k ds m1 with
    | none => simp only [hit] at q1; exact False.elim q1
    | some it =>
      simp only [hit] at q1
      refine ⟨it, rfl, fun J hJ => ?_⟩
      obtain ⟨k0, ok0, e0⟩ := forRun_at xb g it C.fu s m1
      rw [e0] at q1
      refine ⟨fun i kk σ' H' => ∃ ρ' s' m', okK it i kk ∧ Ext ρ1 H1 m1.len ρ' H' m'.len ∧ RelM t X.K ρ' H' m' ∧ RelS t X.K ρ' H' m'.len s' σ' ∧ m1.len ≤ m'.len ∧ RQS t X.K W De ρ1 H1 m1.len (forAt xb g it i kk s' m'), ⟨k0, ρ1, s, m1, ok0, Ext.refl, rm1, rs.ext ex hl, Nat.le_refl _, q1⟩, ?_⟩
      rintro i kk σ' H' ⟨ρ', s', m', ok1, e1, rm', rs', hl', q2⟩
      obtain ⟨j1, j2⟩ := hJ ρ' H' m' e1.w rm' hl' i
      rcases forAt_step xb g it i kk s' m' ok1 with ⟨z1, z2⟩ | ⟨x, z1, s1, ha, k', hk', ok', z2⟩ | z
      · rw [z2] at q2
        exact .inl ⟨j1 z1, q2 ρ' H' σ' e1 rm' rs' hl'⟩
      · obtain ⟨go, yl⟩ := j2 x z1
        rw [z2] at q2
        refine .inr ⟨go, fun σ2 H2 => ∃ ρ2 s2 m2, Ext ρ1 H1 m1.len ρ2 H2 m2.len ∧ RelM t X.K ρ2 H2 m2 ∧ RelS t X.K ρ2 H2 m2.len s2 σ2 ∧ m1.len ≤ m2.len ∧ RQS t X.K W De ρ1 H1 m1.len (forAt xb g it (i + 1) k' s2 m2),
          fun σ2 H2 ⟨ρ2, s2, m2, y1, y2, y3, y4, y5⟩ => ⟨k', hk', ρ2, s2, m2, ok', y1, y2, y3, y4, y5⟩, fun y H2 hy => ?_⟩
        obtain ⟨e2, rm2, r2, b2⟩ := yl y H2 hy
        have e3 := e1.trans e2 hl'
        have rs2 := rs'.ext e2 (Nat.le_refl _)
        refine ⟨ρ', s', x, m'.len, s1, rs2, r2, b2, ha, fun σ3 rs3 _ => ⟨ρ', s1, m', rm2, rs3, ?_⟩⟩
        cases hr : xb s1 m' with
        | next s4 m4 =>
          rw [hr] at q2
          exact fun ρ4 H4 σ4 e4 rm4 rs4 hl4 => ⟨ρ4, s4, m4, e3.trans e4 hl', rm4, rs4, Nat.le_trans hl' hl4, q2⟩
        | brk s4 m4 =>
          rw [hr] at q2
          exact fun ρ4 H4 σ4 e4 rm4 rs4 hl4 => q2 ρ4 H4 σ4 (e3.trans e4 hl') rm4 rs4 (Nat.le_trans hl' hl4)
        | ret d m4 =>
          rw [hr] at q2
          exact fun ρ4 H4 v e4 rm4 rp4 bl4 hl4 => q2 ρ4 H4 v (e3.trans e4 hl') rm4 rp4 bl4 (Nat.le_trans hl' hl4)
        | exc c fs s4 m4 =>
          rw [hr] at q2
          exact fun ρ4 H4 σ4 od e4 rm4 rs4 rx bl4 hl4 => q2 ρ4 H4 σ4 od (e3.trans e4 hl') rm4 rs4 rx bl4 (Nat.le_trans hl' hl4)
        | stuck =>
          rw [hr] at q2
          exact q2
      · rw [z] at q2
        exact False.elim q2
  cases hr : xes s m with
  | ok ds m1 =>
    rw [hr] at q
    exact fun ρ1 H1 vs e rm1 _ _ hl => key ds m1 ρ1 H1 e rm1 hl (RQS.on (show RQS t X.K W De ρ H m.len _ from q) e hl)
  | exc c fs m1 =>
    rw [hr] at q
    exact fun ρ1 H1 od e rm rx bl hl => q ρ1 H1 σ od e rm (rs.ext e hl) rx bl hl
  | stuck =>
    rw [hr] at q
    exact q
theorem z_for (G : Gd t n C W X) {tg iter : Expr} {body : List Stmt} {g : TG} {k : IK} {xes : ExL} {xb : Sx} {pos : Pos} (hp : PassesOwn (model X.prog X.w) X.A X.env X.xe) (hi : PI X tg iter (tI t X.K W k xes)) (hg : PG X tg (tG t X.K g)) (hb : PSs X body (tS t X.K W xb))
    (hs : noSet iter = true) : PS X (.For tg iter body [] pos) (tS t X.K W (sFor C g k xes xb)) :=
  PS.imp (ps_for hp G.calm hi hg hb (set_of hs _)) fun De σ H q => for_imp q
end
end NV

set_option Elab.async false
set_option linter.all false
set_option maxRecDepth 100000
set_option maxHeartbeats 4000000
/-! NvStm2: stores, raising. -/
namespace NV
open PySem PySem.Spec PyProof.Rows L2

/-- an effect that is a value -/
def semVal {α : Type} : Sem α → Option α
  | .pure a => some a
  | _ => none
theorem semVal_of {α : Type} {x : Sem α} {a : α} (h : semVal x = some a) : x = pure a := by
  cases x <;> simp only [semVal] at h <;> first
    | (cases h; done)
    | (cases h; rfl)
def envD (sc : Scope) : Env := { scope := sc, locals := 0, globals := 0, cells := [] }
theorem sw_env (ts : List Expr) (v : Expr) (env : Env) : swappedStores ts v env = swappedStores ts v (envD env.scope) := by cases env; rfl
theorem sws_env (ts : List Expr) (v : Expr) (l : Nat) (env : Env) : swapsWithSole ts v l env = swapsWithSole ts v l (envD env.scope) := by
  cases env
  cases ts with
  | nil => rfl
  | cons a r => cases r <;> rfl

section
variable {t : Tx} {n : Nx} {C : Ct} {W : WX} {X : Cx}
theorem z_asg {tx e : Expr} {g : TG} {x : Ex} {pos : Pos} (hs : semVal (swapsWithSole [tx] e pos.line (envD X.env.scope)) = some false) (hw : semVal (swappedStores [tx] e (envD X.env.scope)) = some none) (hn : noStar tx = true) (he : PE X e (tE t X.K W x)) (hg : PG X tx (tG t X.K g)) :
    PS X (.Assign [tx] e pos) (tS t X.K W (sAsg g x)) :=
  PS.imp (ps_asg he hg ((sws_env _ _ _ _).trans (semVal_of hs)) ((sw_env _ _ _).trans (semVal_of hw)) (by rw [assignEach_cons hn]; rfl)) fun De σ H q => asg_imp q
/-- name = [..] on one line -/
theorem z_setLc (G : Gd t n C W X) {i : Nat} {y : Str} {py spos : Pos} {elt tgx iter : Expr} {ifs : List Expr} {scope : Scope} {own : List Nat} {pos : Pos} {tg : TG} {k : IK} {es : List CE} {ts : List CT} {e : CE} (hy : X.N[i]? = some y) (hyl : X.env.scope.names.lookup y = some .local)
    (hsw : semVal (swapsWithSole [.Name y py] (.ListComp elt [⟨tgx, iter, ifs, 0⟩] scope pos) spos.line (envD X.env.scope)) = some true) (hb : blkC X.N X.env.scope scope (ownP X.N own) = true) (hs : noSet iter = true) (hi : PI X tgx iter (tI t X.K W k (evL C es)))
    (hg : chkG X.N (relS scope X.env.scope) (blkFn scope) tg tgx = true) (hn : tg.names.all (fun i => own.contains i) = true)
    (ht : ∀ (W : WX) (X' : Cx), X'.K = X.K → X'.N = X.N → X'.env.scope = relS scope X.env.scope → Gd t n C W X' → PTs X' ifs (tT t X'.K W (evTs C ts))) (he : ∀ (W : WX) (X' : Cx), X'.K = X.K → X'.N = X.N → X'.env.scope = relS scope X.env.scope → Gd t n C W X' → PE X' elt (tE t X'.K W (evE C e))) :
    PS X (.Assign [.Name y py] (.ListComp elt [⟨tgx, iter, ifs, 0⟩] scope pos) spos) (tS t X.K W (sAsg (.nm i) (xLc C own tg k (evL C es) (evTs C ts) (evE C e)))) := by
  have e1 : (ownP X.N own).map (·.2) = own := by
    unfold ownP
    rw [List.map_map]
    exact List.map_id' _
  have q := ps_setLc (X := X) (py := py) (pos := pos) (spos := spos) (own := ownP X.N own) (tt := tT t X.K W0 (evTs C ts)) (te := tE t X.K W0 (evE C e)) (g := tG t X.K tg) G.calm G.N hy hyl ((sws_env _ _ _ _).trans (semVal_of hsw)) hi (blkOk_by hb)
    (fun s H A cl fp => s_tg (X := X.blk s H scope (compEnvC scope cl A X.env) fp) G.N G.calm (fnB := blkFn scope) (fun x hx => hx) tg tgx hg)
    (fun s H A cl fp => ht W0 _ rfl rfl rfl (G.blk s H scope _ fp)) (fun s H A cl fp => he W0 _ rfl rfl rfl (G.blk s H scope _ fp)) (set_of hs _)
  rw [e1] at q
  refine PS.imp q fun De σ H q => ?_
  have q2 := lc_imp (fun i hi => by
      have := List.all_eq_true.mp hn i hi
      simpa using this) (asg_imp q)
  have key : ∀ (σ : L2.St) (H : Hp) (x : V), tG t X.K (.nm i) x σ H De.nx → gName i x σ H De.nx := fun σ H x z => by
    obtain ⟨ρ, sl, d, k, s', rs, rp, bl, ha, kq⟩ := z
    simp only [asgT] at ha
    cases ha
    refine kq _ (rs.set rp bl) ⟨List.length_set .., fun j hj => ?_⟩
    rw [List.getElem?_set_ne]
    intro z
    exact hj (by simp [TG.names, z])
  obtain ⟨ρ, s, m, rm, rs, q3⟩ := q2
  refine ⟨ρ, s, m, rm, rs, ?_⟩
  cases hr : evL C es s m with
  | ok ds m1 =>
    rw [hr] at q3
    intro ρ1 H1 vs e1 rm1 rp1 bl1 hl1
    obtain ⟨it, hit, kk⟩ := q3 ρ1 H1 vs e1 rm1 rp1 bl1 hl1
    refine ⟨it, hit, fun J hJ Dl hD => ?_⟩
    obtain ⟨W', w0, step⟩ := kk J hJ Dl hD
    refine ⟨W', w0, fun i m H w => ?_⟩
    rcases step i m H w with ⟨st, z⟩ | z
    · exact .inl ⟨st, key _ _ _ z⟩
    · exact .inr z
  | exc c fs m1 => rw [hr] at q3; exact q3
  | stuck => rw [hr] at q3; exact q3

/-! ### a, b = x, y -/
theorem tup_imp {De : Ends} {σ : L2.St} {H : Hp} {gs : List TG} {xs : ExL} {Q : List V → Hp → Prop} (q : tS t X.K W (sAsg (.tp gs) (xTup xs)) De σ H)
    (kk : ∀ ρ s ds vs k s' H1, RelS t X.K ρ H1 k s σ → Reps t X.K ρ H1 ds vs → D.bels k ds → asgTs gs ds s = some s' → (∀ σ', RelS t X.K ρ H1 k s' σ' → De.nx σ' H1) → Q vs H1) : tA t X.K W xs σ H Q := by
  obtain ⟨ρ, s, m, rm, rs, q⟩ := q
  unfold sAsg xTup at q
  rw [bind_assoc] at q
  refine ⟨ρ, s, m, rm, rs, ?_⟩
  cases hr : xs s m with
  | exc c fs m1 => rw [hr] at q; exact fun ρ1 H1 od e rm rx bl hl => q ρ1 H1 σ od e rm (rs.ext e hl) rx bl hl
  | stuck => rw [hr] at q; exact q
  | ok ds m1 =>
    rw [hr] at q
    have q' : RQS t X.K W De ρ H m.len ((clean m (.tup ds) m1).then s fun d m1 => match asgT (.tp gs) d s with
      | some s' => .next s' m1
      | none => .stuck) := q
    intro ρ1 H1 vs e1 rm1 rps bls hl1
    have key : ∀ m2, clean m (.tup ds) m1 = .ok (.tup ds) m2 → RelM t X.K ρ1 H1 m2 → D.bels m2.len ds → m.len ≤ m2.len → m2.len ≤ m1.len → Q vs H1 := by
      intro m2 ec rm2 b2 hl2 hl3
      rw [ec] at q'
      have q2 : RQS t X.K W De ρ H m.len (match asgTs gs ds s with
        | some s' => .next s' m2
        | none => .stuck) := q'
      cases ha : asgTs gs ds s with
      | none => rw [ha] at q2; exact False.elim q2
      | some s' =>
        rw [ha] at q2
        have e2 := e1.trim hl3
        exact kk ρ1 s ds vs m2.len s' H1 (rs.ext e2 hl2) rps b2 ha fun σ' rs' => q2 ρ1 H1 σ' e2 rm2 rs' hl2
    cases hn : D.nlL ds with
    | true =>
      obtain ⟨z1, z2⟩ := cln_ok rm1 rm.esc hl1
      exact key (cln m m1) (by unfold clean; simp only [D.nl, hn]) z1 (D.bels_nl ds hn) z2 len_cln
    | false => exact key m1 (by unfold clean; simp only [D.nl, hn]) rm1 bls hl1 (Nat.le_refl _)
theorem z_par2 (G : Gd t n C W X) {i j : Nat} {x y : Str} {a b : Expr} {xs : ExL} {px py pt pos : Pos} {kt k2 : Nat} {pt2 : Pos} (hi : X.N[i]? = some x) (hj : X.N[j]? = some y) (hij : i ≠ j) (hx : X.env.scope.names.lookup x = some .local) (hy : X.env.scope.names.lookup y = some .local)
    (ha : PA X [a, b] (tA t X.K W xs)) (hw : semVal (swappedStores [.Tuple [.Name x px, .Name y py] kt pt] (.Tuple [a, b] k2 pt2) (envD X.env.scope)) = some (some [x, y])) :
    PS X (.Assign [.Tuple [.Name x px, .Name y py] kt pt] (.Tuple [a, b] k2 pt2) pos) (tS t X.K W (sAsg (.tp [.nm i, .nm j]) (xTup xs))) := by
  refine PS.imp (ps_par G.calm G.N hi hj hij hx hy ha ((sw_env _ _ _).trans (semVal_of hw)) rfl) fun De σ H q => tup_imp q fun ρ s ds vs k s' H1 rs rps bls hs' nx => ?_
  have hl := asgTs_len hs'
  match ds, vs, rps, bls, hs', hl with
  | [d, e], vs, rps, bls, hs', _ =>
    obtain ⟨v, u, rfl, r1, r2⟩ := reps_two rps
    simp only [D.bels] at bls
    simp only [asgTs, asgT] at hs'
    cases hs'
    exact ⟨v, u, rfl, nx _ ((rs.set r1 bls.1).set r2 bls.2.1)⟩
theorem z_par3 (G : Gd t n C W X) {i j l : Nat} {x y z : Str} {a b c : Expr} {xs : ExL} {px py pz pt pos : Pos} {kt k2 : Nat} {pt2 : Pos} (hi : X.N[i]? = some x) (hj : X.N[j]? = some y) (hl : X.N[l]? = some z) (hij : i ≠ j) (hil : i ≠ l) (hjl : j ≠ l)
    (hx : X.env.scope.names.lookup x = some .local) (hy : X.env.scope.names.lookup y = some .local) (hz : X.env.scope.names.lookup z = some .local)
    (ha : PA X [a, b, c] (tA t X.K W xs)) (hw : semVal (swappedStores [.Tuple [.Name x px, .Name y py, .Name z pz] kt pt] (.Tuple [a, b, c] k2 pt2) (envD X.env.scope)) = some (some [x, y, z])) :
    PS X (.Assign [.Tuple [.Name x px, .Name y py, .Name z pz] kt pt] (.Tuple [a, b, c] k2 pt2) pos) (tS t X.K W (sAsg (.tp [.nm i, .nm j, .nm l]) (xTup xs))) := by
  refine PS.imp (ps_par3 G.calm G.N hi hj hl hij hil hjl hx hy hz ha ((sw_env _ _ _).trans (semVal_of hw)) rfl) fun De σ H q => tup_imp q fun ρ s ds vs k s' H1 rs rps bls hs' nx => ?_
  have hl := asgTs_len hs'
  match ds, vs, rps, bls, hs', hl with
  | [d, e, f], vs, rps, bls, hs', _ =>
    obtain ⟨v, u, w, rfl, r1, r2, r3⟩ := reps_three rps
    simp only [D.bels] at bls
    simp only [asgTs, asgT] at hs'
    cases hs'
    exact ⟨v, u, w, rfl, nx _ (((rs.set r1 bls.1).set r2 bls.2.1).set r3 bls.2.2.1)⟩

/-! ### name op= e -/
def r_iadd (K : PySem.W.Frag) : R2 := fun x y H Q => ipI (fun i j => i + j) x y H Q ∨ rExt2 x y H Q
theorem o_iadd {X : Cx} : OpR X (inplaceOp .Add) (r_iadd X.K) := OpR.or (show OpR X (inplaceOp .Add) _ from ip_add) iop_ext
def augB : Operator → Pr → Bool
  | .Add, .add => true
  | .Sub, .sub => true
  | _, _ => false
theorem aug_rule {op : Operator} {p : Pr} (h : augB op p = true) : ∃ r, PIp X op r ∧ ∀ (Wx : XK) (ρ : Pl) (H : Hp) (m : Mem) (x y : NV.D) (v u : V) (Q : VK), RelM t X.K ρ H m → Rep t X.K ρ H x v → Rep t X.K ρ H y u → x.bel m.len → y.bel m.len →
    RQ srD t X.K Wx ρ H m.len (augP p x y m) Q → r v u H Q := by
  cases op <;> cases p <;> try (cases h; done)
  · refine ⟨_, o_iadd, fun Wx ρ H m x y v u Q rm rx ry bx by_ q => ?_⟩
    cases x <;> cases y <;> try exact False.elim q
    · exact .inl ⟨_, _, rep_int rx, rep_int ry, RQ.val q rm Rep.int bel_int⟩
    · rename_i a b
      simp only [augP] at q
      cases ga : m.get a with
      | none => simp only [ga] at q; exact False.elim q
      | some oa =>
        cases gb : m.get b with
        | none => cases oa <;> simp only [ga, gb] at q <;> exact False.elim q
        | some ob =>
          cases oa <;> cases ob <;> simp only [ga, gb] at q <;> try exact False.elim q
          rename_i xs ys
          obtain ⟨hz, q⟩ := RQ.iteN q
          obtain ⟨vs, q1, q2, q3⟩ := get_lst rm ga
          obtain ⟨us, q4, q5, q6⟩ := get_lst rm gb
          have b1 : D.bels (limW m.wr a) xs := (rm.ob a _ ga).2
          obtain ⟨rm', e'⟩ := ref_lst (nl := D.nlL ys) (es := xs ++ ys) (us := vs ++ us) rm ga (Reps.append q2 q5) (bels_append q3 q6) (fun hn => bels_append b1 (D.bels_nl ys hn))
          have hl1 := q2.length
          have hl2 := q5.length
          refine .inr ⟨_, _, vs, us, rep_loc rx, rep_loc ry, q1, q4, by omega, ?_⟩
          refine q ρ _ (.ref (ρ a)) e' rm' ?_ ?_ (by rw [len_put]; exact Nat.le_refl _)
          · show Rep t X.K ρ (upd H (ρ a) (.lst (vs ++ us))) (.loc a) (.ref (ρ a))
            simp only [Rep]
          · rw [len_put]
            exact bx
  · refine ⟨_, ip_sub, fun Wx ρ H m x y v u Q rm rx ry bx by_ q => ?_⟩
    cases x <;> cases y <;> try exact False.elim q
    exact ⟨_, _, rep_int rx, rep_int ry, RQ.val q rm Rep.int bel_int⟩
theorem z_aug (G : Gd t n C W X) {i : Nat} {y : Str} {e : Expr} {x : Ex} {op : Operator} {p : Pr} {pos pos' : Pos} (hi : X.N[i]? = some y) (hy : Loc X.env.scope y) (hf : X.fn y = true) (h : augB op p = true) (he : PE X e (tE t X.K W x)) :
    PS X (.AugAssign (.Name y pos') op e pos) (tS t X.K W (sAug i p x)) := by
  obtain ⟨r, hr, hk⟩ := aug_rule (t := t) (X := X) h
  refine PS.imp (ps_aug G.N hi hy he hr (.inl hf)) fun De σ H ⟨ρ, s, m, rm, rs, q⟩ => ?_
  unfold sAug at q
  cases hg : getS s i with
  | none => simp only [hg] at q; exact False.elim q
  | some d =>
    simp only [hg] at q
    obtain ⟨v, e1, rp, bl⟩ := rs.get hg
    refine ⟨v, e1, ρ, s, m, rm, rs, ?_⟩
    cases hx : x s m with
    | exc c fs m1 => rw [hx] at q; exact fun ρ1 H1 od e rm rx bl hl => q ρ1 H1 σ od e rm (rs.ext e hl) rx bl hl
    | stuck => rw [hx] at q; exact q
    | ok dy m1 =>
      rw [hx] at q
      intro ρ1 H1 u ex rm1 rpy bly hl1
      have q' : RQS t X.K W De ρ H m.len ((augP p d dy m1).then s fun z m2 => match z.nl with
        | true => .next (setS s i z) (cln m m2)
        | false => .next (setS s i z) m2) := q
      have q2 : RQ srD t X.K (WE W σ) ρ1 H1 m1.len (augP p d dy m1) fun z H2 => De.nx (σ.set i (some z)) H2 := by
        cases ha : augP p d dy m1 with
        | exc c fs m2 => rw [ha] at q'; exact fun ρ2 H2 od e rm rx bl hl => q' ρ2 H2 σ od (ex.trans e hl1) rm (rs.ext (ex.trans e hl1) (Nat.le_trans hl1 hl)) rx bl (Nat.le_trans hl1 hl)
        | stuck => rw [ha] at q'; exact q'
        | ok z m2 =>
          rw [ha] at q'
          intro ρ2 H2 zv e2 rm2 rpz blz hl2
          have e3 := ex.trans e2 hl1
          have hl3 := Nat.le_trans hl1 hl2
          have q3 : RQS t X.K W De ρ H m.len (match z.nl with
            | true => .next (setS s i z) (cln m m2)
            | false => .next (setS s i z) m2) := q'
          cases hn : z.nl with
          | true =>
            rw [hn] at q3
            obtain ⟨z1, z2⟩ := cln_ok rm2 rm.esc hl3
            have e4 := e3.trim (len_cln (m := m))
            exact q3 ρ2 H2 _ e4 z1 ((rs.ext e4 z2).set rpz (D.bel_nl z hn)) z2
          | false =>
            rw [hn] at q3
            exact q3 ρ2 H2 _ e3 rm2 ((rs.ext e3 hl3).set rpz blz) hl3
      exact hk _ _ _ _ _ _ _ _ _ rm1 (Rep.ext ex d v bl rp) rpy (D.bel_le hl1 d bl) bly q2

/-! ### o[i] = e -/
def r_set : TSet := fun o i v H Q => rSetL o i v H Q ∨ rSetD o i v H Q
theorem p_setIx (G : Gd t n C W X) : PSet X r_set := by
  intro pins s σ H o i v ov iv u Q I ro ri rv q
  rcases q with q | q
  · exact set_list pins s σ H o i v ov iv u Q I ro ri rv q
  · exact set_dict (by have := G.un; omega) pins s σ H o i v ov iv u Q I ro ri rv q
theorem ref_dic {K : PySem.W.Frag} {ρ : Pl} {H : Hp} {m : Mem} {k : Nat} {ds es : List (NV.D × NV.D)} {ks : List (Key × V)} {nl : Bool} (rm : RelM t K ρ H m) (g : m.get k = some (.dic ds)) (r : RepKv t K ρ H es ks) (nd : (ks.map (·.1)).Nodup) (b : belKv m.len es) (hb : nl = true → belKv (limW m.wr k) es) :
    RelM t K ρ (upd H (ρ k) (.dK ks)) (m.put k (.dic es) nl) ∧ Ext ρ H m.len ρ (upd H (ρ k) (.dK ks)) (m.put k (.dic es) nl).len := by
  rw [len_put]
  obtain ⟨vs, q1, q2, q3⟩ := get_dic rm g
  have e := ext_put (ρ := ρ) (n := m.len) (o := .dK ks) (get_lt g) q1 (fun _ z => by cases z) (fun _ _ z => by cases z)
  refine ⟨rm.put (u := .dK vs) g rfl rfl q1 (fun _ z => by cases z) (fun _ _ z => by cases z) ⟨ks, upd_same, RepKv.ext e es ks b r, nd⟩ ?_, e⟩
  cases nl with
  | true => exact hb rfl
  | false => exact b
theorem set_reps {K : PySem.W.Frag} {ρ : Pl} {H : Hp} {d : NV.D} {v : V} : ∀ {xs : List NV.D} {vs : List V} (j : Nat), Reps t K ρ H xs vs → Rep t K ρ H d v → Reps t K ρ H (xs.set j d) (vs.set j v)
  | [], [], _, r, _ => r
  | x :: xs, w :: vs, 0, r, rd => by
    simp only [Reps] at r
    simp only [List.set_cons_zero, Reps]
    exact ⟨rd, r.2⟩
  | x :: xs, w :: vs, j + 1, r, rd => by
    simp only [Reps] at r
    simp only [List.set_cons_succ, Reps]
    exact ⟨r.1, set_reps j r.2 rd⟩
  | [], _ :: _, _, r, _ => by simp only [Reps] at r
  | _ :: _, [], _, r, _ => by simp only [Reps] at r
theorem set_bels {k : Nat} {d : NV.D} {xs : List NV.D} (j : Nat) (b : D.bels k xs) (bd : d.bel k) : D.bels k (xs.set j d) := bels_iff.mpr fun x hx => by
  rcases List.mem_or_eq_of_mem_set hx with h | h
  · exact bels_iff.mp b x h
  · rw [h]; exact bd
theorem setIx_ok {K : PySem.W.Frag} {ρ : Pl} {H : Hp} {m m' : Mem} {o i v : NV.D} {ov iv vv : V} {Q : Hp → Prop} (rm : RelM t K ρ H m) (h : setIxD m o i v = some m') (ro : Rep t K ρ H o ov) (ri : Rep t K ρ H i iv) (rv : Rep t K ρ H v vv) (bi : i.bel m.len) (bv : v.bel m.len)
    (q : ∀ H', Ext ρ H m.len ρ H' m'.len → RelM t K ρ H' m' → m.len ≤ m'.len → Q H') : r_set ov iv vv H Q := by
  unfold setIxD at h
  cases o <;> simp only at h <;> try (cases h; done)
  rename_i k
  rw [rep_loc ro]
  cases g : m.get k with
  | none => simp only [g] at h; cases h
  | some ob =>
    cases ob with
    | lst xs =>
      simp only [g] at h
      cases i <;> simp only at h <;> try (cases h; done)
      rename_i j
      rw [rep_int ri]
      cases hj : ixI xs.length j with
      | none => simp only [hj] at h; cases h
      | some jj =>
        simp only [hj] at h
        cases h
        obtain ⟨vs, q1, q2, q3⟩ := get_lst rm g
        have b1 : D.bels (limW m.wr k) xs := (rm.ob k _ g).2
        obtain ⟨rm', e'⟩ := ref_lst (nl := v.nl) (es := xs.set jj v) (us := vs.set jj vv) rm g (set_reps jj q2 rv) (set_bels jj q3 bv) (fun hn => set_bels jj b1 (D.bel_nl v hn))
        exact .inl ⟨_, vs, j, jj, rfl, rfl, q1, by rw [← q2.length]; exact hj, q _ e' rm' (by rw [len_put]; exact Nat.le_refl _)⟩
    | dic kvs =>
      simp only [g] at h
      obtain ⟨hc, h⟩ := ite_some h
      rw [Bool.and_eq_true] at hc
      have hsz := of_decide_eq_true hc.2
      subst h
      obtain ⟨ks, q1, q2, q3, q4⟩ := get_dic rm g
      have b1 : belKv (limW m.wr k) kvs := (rm.ob k _ g).2
      obtain ⟨key, rfl, hq⟩ := key_rep hc.1 ri
      have kb : ∀ j, i.bel j := fun j => by
        cases i with
        | int _ => simp only [D.bel]
        | str _ => simp only [D.bel]
        | _ => cases hc.1
      obtain ⟨rm', e'⟩ := ref_dic (nl := v.nl) (es := dPut kvs i v) (ks := putK ks key vv) rm g (dPut_ok hc.1 ri rv hq q2 q3) (putK_keys ks key vv q3) (belKv_put (kb _) bv q4) (fun hn => belKv_put (kb _) (D.bel_nl v hn) b1)
      exact .inr ⟨_, _, rfl, .inl ⟨ks, key, q1, rfl, by rw [← q2.length]; exact hsz, rfl⟩, q _ e' rm' (by rw [len_put]; exact Nat.le_refl _)⟩
    | ins c fs => simp only [g] at h; cases h
theorem z_setIx (G : Gd t n C W X) {o i e : Expr} {xo xi xe : Ex} {tp pos : Pos} (hs : semVal (swapsWithSole [.Subscript o i tp] e pos.line (envD X.env.scope)) = some false) (hw : semVal (swappedStores [.Subscript o i tp] e (envD X.env.scope)) = some none) (hn : noSlice i = true)
    (ho : PE X o (tE t X.K W xo)) (hi : PE X i (tE t X.K W xi)) (he : PE X e (tE t X.K W xe)) : PS X (.Assign [.Subscript o i tp] e pos) (tS t X.K W (sSetIx xo xi xe)) := by
  refine PS.imp (ps_asg he (pg_sub ho hi (p_setIx G) (fun v => by cases i <;> first | rfl | cases hn)) ((sws_env _ _ _ _).trans (semVal_of hs)) ((sw_env _ _ _).trans (semVal_of hw)) rfl) fun De σ H ⟨ρ, s, m, rm, rs, q⟩ => ⟨ρ, s, m, rm, rs, ?_⟩
  unfold sSetIx at q
  refine RQS.cleanThen rm.esc rs q fun d m1 ρ1 H1 v e1 rm1 rs1 rp bl hl1 q1 => ⟨ρ1, s, m1, rm1, rs1, ?_⟩
  refine RQS.then (S := srD) rs1 q1 fun d2 m2 ρ2 H2 v2 _ e2 rm2 rs2 rp2 bl2 hl2 q2 => ⟨ρ2, s, m2, rm2, rs2, ?_⟩
  refine RQS.then (S := srD) rs2 q2 fun d3 m3 ρ3 H3 v3 _ e3 rm3 rs3 rp3 bl3 hl3 q3 => ?_
  cases hx : setIxD m3 d2 d3 d with
  | none => simp only [hx, memT] at q3; exact False.elim q3
  | some m4 =>
    simp only [hx, memT] at q3
    exact setIx_ok rm3 hx (Rep.ext e3 d2 v2 bl2 rp2) rp3 (Rep.ext e3 d v (D.bel_le hl2 d bl) (Rep.ext e2 d v bl rp)) bl3 (D.bel_le hl3 d (D.bel_le hl2 d bl)) fun H4 e4 rm4 hl4 => q3 ρ3 H4 σ e4 rm4 (rs3.ext e4 hl4) hl4

/-! ### raise -/
/-- an error class of the text -/
structure ErrC (X : Cx) (x : Str) (a : Addr) : Prop where
  base : PySem.W.excIn X.K a [.type "ValueError", .type "Exception", .type "BaseException", .type "object"] "ValueError.__new__" = true
  glob : X.mg x = some (.ref a)
  kept : PySem.W.keepIn X.K (.ref a) = true
  rz : Raises X (.ref a)
theorem z_raise (G : Gd t n C W X) {c : Nat} {x : Str} {e : Expr} {xs : CE} {p cpos pos : Pos} (E : ErrC X x (t.ca c)) (hg : glB X.env.scope x = true) (hn : nmB x = true) (hs : noStar e = true) (he : PE X e (tE t X.K W (evE C xs))) :
    PS X (.Raise (some (.Call (.Name x p) [e] [] cpos)) none pos) (tS t X.K W (sRaise c (evL C [xs]))) := by
  have pa : PA X [e] (tA t X.K W (evL C [xs])) := by
    simp only [evL]
    exact s_pcons hs he s_pnil
  refine PS.imp (ps_raise G.calm G.tk (pmk_ownA PySem.F.excBase_ValueError E.base E.glob E.kept E.rz (gl_of hg) pa (nm_of hn).1 (star_of hs _ _) rfl)) fun De σ H ⟨ρ, s, m, rm, rs, q⟩ => ⟨ρ, s, m, rm, rs, ?_⟩
  unfold sRaise at q
  refine RQS.then (S := srL) rs q fun ds m1 ρ1 H1 vs e1 _ rm1 rs1 rps _ _ q1 => ⟨?_, ?_⟩
  · rw [← Reps.length rps, evL_len C _ _ _ _ _ e1]
    exact sz_small (show 1 ≤ 1000 by decide)
  · split at q1
    · exact q1 ρ1 H1 σ none Ext.refl rm1 rs1 (.inl ⟨rfl, rfl⟩) (by simp only [belFs]) (Nat.le_refl _)
    · exact False.elim q1
end
end NV

set_option Elab.async false
set_option linter.all false
set_option maxRecDepth 100000
set_option maxHeartbeats 4000000
/-! NvStm3: stores to attributes. -/
namespace NV
open PySem PySem.Spec PyProof.Rows L2
section
variable {t : Tx} {n : Nx} {C : Ct} {W : WX} {X : Cx}
theorem swa_env (e : Expr) (o : Expr) (f : Str) (p : Pos) (l : Nat) (env : Env) : swapsWith e (some (.Attribute o f p)) l env = pure false := by cases e <;> rfl
theorem ref_ins {K : PySem.W.Frag} {ρ : Pl} {H : Hp} {m : Mem} {k c : Nat} {fs es : List (Nat × NV.D)} {dx : Addr} {gs us : List (Str × V)} {nl : Bool} (rm : RelM t K ρ H m) (g : m.get k = some (.ins c fs)) (hH : H (ρ k) = some (.ins (t.ca c) dx gs)) (r : RepFs t K ρ H es us) (b : belFs m.len es) (hb : nl = true → belFs (limW m.wr k) es) :
    RelM t K ρ (upd H (ρ k) (.ins (t.ca c) dx us)) (m.put k (.ins c es) nl) ∧ Ext ρ H m.len ρ (upd H (ρ k) (.ins (t.ca c) dx us)) (m.put k (.ins c es) nl).len := by
  have hlt := get_lt g
  have e' : Ext ρ H m.len ρ (upd H (ρ k) (.ins (t.ca c) dx us)) m.len := ext_put hlt hH (fun _ z => by cases z) (fun _ _ z => by cases z)
  refine ⟨rm.put g rfl rfl hH (fun _ z => by cases z) (fun _ _ z => by cases z) ⟨dx, us, upd_same, RepFs.ext e' es us b r⟩ ?_, by rw [len_put]; exact e'⟩
  cases nl with
  | true => exact hb rfl
  | false => exact b
theorem setFl_ok (G : Gd t n C W X) {f : Nat} {y : Str} (hf : n.fld[f]? = some y) {ρ : Pl} {H : Hp} {m m' : Mem} {o v : NV.D} {ov vv : V} {Q : Hp → Prop} (rm : RelM t X.K ρ H m) (h : setFlD C m o f v = some m') (ro : Rep t X.K ρ H o ov) (rv : Rep t X.K ρ H v vv) (bv : v.bel m.len)
    (q : ∀ H', Ext ρ H m.len ρ H' m'.len → RelM t X.K ρ H' m' → m.len ≤ m'.len → Q H') : ∃ a Cl dx fs, ov = .ref a ∧ H a = some (.ins Cl dx fs) ∧ Cls X.K Cl ∧ NoAttr X.K Cl y ∧ fs.length < 1000 ∧ Q (upd H a (.ins Cl dx (putF y vv fs))) := by
  unfold setFlD at h
  cases o <;> simp only at h <;> try (cases h; done)
  rename_i k
  cases g : m.get k with
  | none => simp only [g] at h; cases h
  | some ob =>
    cases ob <;> simp only [g] at h <;> try (cases h; done)
    rename_i c fs
    cases hc : (C.fok c f && Nat.ble fs.length 900) with
    | false => simp only [hc] at h; cases h
    | true =>
      simp only [hc] at h
      cases h
      rw [Bool.and_eq_true, Nat.ble_eq] at hc
      obtain ⟨dx, gs, h1, h2, h3⟩ := get_ins rm g
      obtain ⟨c1, c2⟩ := G.fok c f y hc.1 hf
      have b1 : belFs (limW m.wr k) fs := (rm.ob k _ g).2
      obtain ⟨rm', e'⟩ := ref_ins (nl := v.nl) (es := fPut fs f v) (us := putF y vv gs) rm g h1 (fPut_ok (G.atn f y hf) rv h2) (belFs_put bv h3) (fun hn => belFs_put (D.bel_nl v hn) b1)
      have hl := h2.length
      exact ⟨ρ k, t.ca c, dx, gs, rep_loc ro, h1, c1, c2, by omega, q _ e' rm' (by rw [len_put]; exact Nat.le_refl _)⟩
theorem z_setFl (G : Gd t n C W X) {f : Nat} {y : Str} {o e : Expr} {xo xe : Ex} {tp pos : Pos} (hf : n.fld[f]? = some y) (ho : PE X o (tE t X.K W xo)) (he : PE X e (tE t X.K W xe)) : PS X (.Assign [.Attribute o y tp] e pos) (tS t X.K W (sSetFl C xo f xe)) := by
  refine PS.imp (ps_fld ho he (swa_env _ _ _ _ _ _)) fun De σ H ⟨ρ, s, m, rm, rs, q⟩ => ⟨ρ, s, m, rm, rs, ?_⟩
  unfold sSetFl at q
  refine RQS.cleanThen rm.esc rs q fun d m1 ρ1 H1 v e1 rm1 rs1 rp bl hl1 q1 => ⟨ρ1, s, m1, rm1, rs1, ?_⟩
  refine RQS.then (S := srD) rs1 q1 fun d2 m2 ρ2 H2 v2 _ e2 rm2 rs2 rp2 bl2 hl2 q2 => ?_
  cases hx : setFlD C m2 d2 f d with
  | none => simp only [hx, memT] at q2; exact False.elim q2
  | some m4 =>
    simp only [hx, memT] at q2
    exact setFl_ok G hf rm2 hx rp2 (Rep.ext e2 d v bl rp) (D.bel_le hl2 d bl) fun H4 e4 rm4 hl4 => q2 ρ2 H4 σ e4 rm4 (rs2.ext e4 hl4) hl4
/-- an augmented operator, as an attribute takes it -/
theorem inOp_of {op : Operator} {r : R2} (h : PIp X op r) : InOp X op r := fun pins s σ H x y u v Q I rx ry q => h pins s σ H x y u v Q I rx ry q
theorem getFl_ok (G : Gd t n C W X) {f : Nat} {y : Str} (hf : n.fld[f]? = some y) {ρ : Pl} {H : Hp} {m : Mem} {o v : NV.D} {ov : V} (rm : RelM t X.K ρ H m) (h : getFlD C m o f = some v) (ro : Rep t X.K ρ H o ov) :
    ∃ k c fs dx gs vv, o = .loc k ∧ ov = .ref (ρ k) ∧ m.get k = some (.ins c fs) ∧ H (ρ k) = some (.ins (t.ca c) dx gs) ∧ Cls X.K (t.ca c) ∧ NoAttr X.K (t.ca c) y ∧ gs.lookup y = some vv ∧ Rep t X.K ρ H v vv ∧ v.bel m.len := by
  unfold getFlD at h
  cases o <;> simp only at h <;> try (cases h; done)
  rename_i k
  cases g : m.get k with
  | none => simp only [g] at h; cases h
  | some ob =>
    cases ob <;> simp only [g] at h <;> try (cases h; done)
    rename_i c fs
    cases hc : C.fok c f with
    | false => simp only [hc] at h; cases h
    | true =>
      simp only [hc] at h
      obtain ⟨dx, gs, h1, h2, h3⟩ := get_ins rm g
      obtain ⟨c1, c2⟩ := G.fok c f y hc hf
      have hg := fGet_ok (G.atn f y hf) h2
      rw [h] at hg
      obtain ⟨v2, l, r2, b2⟩ := hg
      exact ⟨k, c, fs, dx, gs, v2, rfl, rep_loc ro, g, h1, c1, c2, l, r2, b2 _ h3⟩
theorem z_augFl (G : Gd t n C W X) {f : Nat} {y : Str} {o e : Expr} {xo xe : Ex} {op : Operator} {p : Pr} {tp pos : Pos} (hf : n.fld[f]? = some y) (hop : augB op p = true) (ho : PE X o (tE t X.K W xo)) (he : PE X e (tE t X.K W xe)) : PS X (.AugAssign (.Attribute o y tp) op e pos) (tS t X.K W (sAugFl C xo f p xe)) := by
  obtain ⟨r, hr, hk⟩ := aug_rule (t := t) (X := X) hop
  refine PS.imp (ps_fldaug ho he (inOp_of hr)) fun De σ H ⟨ρ, s, m, rm, rs, q⟩ => ⟨ρ, s, m, rm, rs, ?_⟩
  unfold sAugFl at q
  refine RQS.then (S := srD) rs q fun d1 m1 ρ1 H1 v1 _ e1 rm1 rs1 rp1 bl1 hl1 q1 => ?_
  cases hg : getFlD C m1 d1 f with
  | none => simp only [hg] at q1; exact False.elim q1
  | some x =>
    simp only [hg] at q1
    obtain ⟨k, c, fs, dx, gs, vv, rfl, ev, g, h1, c1, c2, l, rx, bx⟩ := getFl_ok G hf rm1 hg rp1
    refine ⟨ρ1 k, t.ca c, dx, gs, vv, ev, h1, c1, c2, l, ρ1, s, m1, rm1, rs1, ?_⟩
    cases hx : xe s m1 with
    | exc cc fs' m2 => rw [hx] at q1; exact fun ρ2 H2 od e rm rx bl hl => q1 ρ2 H2 σ od e rm (rs1.ext e hl) rx bl hl
    | stuck => rw [hx] at q1; exact q1
    | ok dy m2 =>
      rw [hx] at q1
      intro ρ2 H2 u e2 rm2 rpy bly hl2
      have q' : RQS t X.K W De ρ1 H1 m1.len ((augP p x dy m2).then s fun z m3 => memT s (setFlS C m1 m3 (.loc k) f z)) := q1
      refine hk (WE W σ) ρ2 H2 m2 x dy vv u _ rm2 (Rep.ext e2 x vv bx rx) rpy (D.bel_le hl2 x bx) bly ?_
      cases ha : augP p x dy m2 with
      | exc cc fs' m3 => rw [ha] at q'; exact fun ρ3 H3 od e rm rx bl hl => q' ρ3 H3 σ od (e2.trans e hl2) rm (rs1.ext (e2.trans e hl2) (Nat.le_trans hl2 hl)) rx bl (Nat.le_trans hl2 hl)
      | stuck => rw [ha] at q'; exact q'
      | ok z m3 =>
        rw [ha] at q'
        intro ρ3 H3 zv e3 rm3 rpz blz hl3
        have e4 := e2.trans e3 hl2
        have hl4 := Nat.le_trans hl2 hl3
        have q3 : RQS t X.K W De ρ1 H1 m1.len (memT s (setFlS C m1 m3 (.loc k) f z)) := q'
        have rk : Rep t X.K ρ3 H3 (.loc k) (.ref (ρ1 k)) := by
          simp only [Rep]
          rw [e4.pl k (get_lt g)]
        unfold setFlS at q3
        cases hsc : sameC m1 m3 (.loc k) with
        | false => simp only [hsc, memT] at q3; exact False.elim q3
        | true =>
        simp only [hsc] at q3
        cases hs : setFlD C m3 (.loc k) f z with
        | none => simp only [hs, memT] at q3; exact False.elim q3
        | some m4 =>
          simp only [hs, memT] at q3
          obtain ⟨a, Cl, dx', fs', ea, h5, _, _, h6, h7⟩ := setFl_ok (Q := fun H' => De.nx σ H') G hf rm3 hs rk rpz blz fun H5 e5 rm5 hl5 => q3 ρ3 H5 σ (e4.trans e5 hl4) rm5 (rs1.ext (e4.trans e5 hl4) (Nat.le_trans hl4 hl5)) (Nat.le_trans hl4 hl5)
          cases ea
          have ecl : Cl = t.ca c := by
            unfold sameC clsOf at hsc
            simp only [g] at hsc
            cases g3 : m3.get k with
            | none => simp only [g3] at hsc; cases hsc
            | some ob =>
              cases ob <;> simp only [g3] at hsc <;> try (cases hsc; done)
              rename_i c3 fs3
              have ec : c = c3 := Nat.eq_of_beq_eq_true hsc
              subst ec
              obtain ⟨dx3, gs3, k1, _, _⟩ := get_ins rm3 g3
              rw [e4.pl k (get_lt g), h5] at k1
              injection k1 with k1
              injection k1
          subst ecl
          exact ⟨dx', fs', h5, h6, h7⟩
end
end NV

set_option Elab.async false
set_option linter.all false
set_option maxRecDepth 100000
set_option maxHeartbeats 4000000
/-! NvTry: try .. except, the clauses without a name. -/
namespace NV
open PySem PySem.Spec PyProof.Rows L2
section
variable {t : Tx} {n : Nx} {C : Ct} {W W' : WX} {X : Cx}
mutual
theorem belB_ok {n : Nat} : ∀ d : D, d.belB n = true → d.bel n
  | .tup ds, h => by
    simp only [D.belB] at h
    simp only [D.bel]
    exact belsB_ok ds h
  | .loc k, h => by
    simp only [D.belB, Nat.blt_eq] at h
    simp only [D.bel]
    exact h
  | .er _ _, h => by simp only [D.belB] at h; cases h
  | .non, _ => by simp only [D.bel]
  | .bl _, _ => by simp only [D.bel]
  | .int _, _ => by simp only [D.bel]
  | .str _, _ => by simp only [D.bel]
  | .fn _, _ => by simp only [D.bel]
  | .thk, _ => by simp only [D.bel]
  | .rol _, _ => by simp only [D.bel]
theorem belsB_ok {n : Nat} : ∀ ds : List D, D.belsB n ds = true → D.bels n ds
  | [], _ => by simp only [D.bels]
  | d :: ds, h => by
    simp only [D.belsB, Bool.and_eq_true] at h
    simp only [D.bels]
    exact ⟨belB_ok d h.1, belsB_ok ds h.2⟩
end
theorem belSl_ok {n : Nat} : ∀ {s : Sl} {i : Nat} {d : D}, belSl n s = true → s[i]? = some (some d) → d.bel n
  | none :: s, 0, d, _, e => by cases e
  | none :: s, i + 1, d, h, e => belSl_ok (s := s) (i := i) (by simpa only [belSl] using h) (by simpa using e)
  | some x :: s, i, d, h, e => by
    simp only [belSl, Bool.and_eq_true] at h
    cases i with
    | zero =>
      cases e
      exact belB_ok _ h.1
    | succ i => exact belSl_ok (s := s) (i := i) h.2 (by simpa using e)
theorem wipeS_len : ∀ (is : List Nat) (s : Sl), (wipeS is s).length = s.length
  | [], s => rfl
  | i :: is, s => by
    unfold wipeS
    simp [wipeS_len is]
theorem wipeS_some : ∀ {is : List Nat} {s : Sl} {i : Nat} {d : D}, (wipeS is s)[i]? = some (some d) → s[i]? = some (some d)
  | [], _, _, _, h => h
  | j :: is, s, i, d, h => by
    unfold wipeS at h
    first
      | (have h2 := wipeS_some h
         by_cases c : j = i
         · subst c
           rw [List.getElem?_set] at h2
           simp at h2
         · rw [List.getElem?_set_ne c] at h2
           exact h2)
      | (by_cases c : j = i
         · subst c
           rw [List.getElem?_set] at h
           simp at h
         · rw [List.getElem?_set_ne c] at h
           exact wipeS_some h)
theorem RelS.wipeD {K : PySem.W.Frag} {ρ : Pl} {H : Hp} {k : Nat} {s : Sl} {σ : L2.St} (rs : RelS t K ρ H k s σ) (is : List Nat) : RelS t K ρ H k (wipeS is s) σ :=
  ⟨by rw [wipeS_len]; exact rs.len, fun i d e => rs.slot i d (wipeS_some e)⟩
/-- a block swept -/
theorem z_sweep {is : List Nat} {xs : List Stmt} {b : Sx} (h : PSs X xs (tS t X.K W b)) : PSs X xs (tS t X.K W (sSweep is b)) := by
  refine PSs.imp h fun De σ H ⟨ρ, s, m, rm, rs, q⟩ => ⟨ρ, s, m, rm, rs, ?_⟩
  unfold sSweep at q
  cases hr : b s m with
  | next s' m' =>
    rw [hr] at q
    intro ρ1 H1 σ1 e1 rm1 rs1 hl
    simp only [sweepR] at q
    cases hb : belSl m.len (wipeS is s') with
    | true =>
      simp only [hb] at q
      obtain ⟨z1, z2⟩ := cln_ok rm1 rm.esc hl
      have rw1 := rs1.wipeD is
      exact q ρ1 H1 σ1 (e1.trim (len_cln (m := m))) z1 ⟨rw1.len, fun i d e => by
        obtain ⟨v, v1, v2, _⟩ := rw1.slot i d e
        exact ⟨v, v1, v2, D.bel_le z2 d (belSl_ok hb e)⟩⟩ z2
    | false =>
      simp only [hb] at q
      exact q ρ1 H1 σ1 e1 rm1 (rs1.wipeD is) hl
  | brk s' m' => rw [hr] at q; exact q
  | ret d m' => rw [hr] at q; exact q
  | exc c fs s' m' => rw [hr] at q; exact q
  | stuck => rw [hr] at q; exact q
theorem Gd.tr (G : Gd t n C W X) {pn : List (Addr × Obj)} {xe : Value → Shared → Prop} (tk : Takes (X.tr pn xe) W') : Gd t n C W' (X.tr pn xe) :=
  ⟨G.N, G.calm, tk, G.gu, G.un, G.bi, G.glo, G.fns, G.fng, G.atn, G.fok, G.mth, G.ini, G.lam⟩
abbrev Hs : Type := List (Nat × Option Nat × List CS)
abbrev noW : WX := fun _ _ _ _ => False
/-- what each clause does -/
def hsT (t : Tx) (C : Ct) (K : PySem.W.Frag) (hs : Hs) : List (Value × (Addr → Value → Option Addr → TS)) := hs.map fun h => (.ref (t.ca h.1), fun _ _ _ => tS t K noW (evSs C h.2.2))
/-- the pairs of classes are right -/
structure SubOk (t : Tx) (C : Ct) (K : PySem.W.Frag) : Prop where
  yes : ∀ c h, C.sub (2 * c) h = true → PySem.W.exmOne K (.ref (t.ca c)) (.ref (t.ca h)) = some true
  no : ∀ c h, C.sub (2 * c + 1) h = true → PySem.W.exmOne K (.ref (t.ca c)) (.ref (t.ca h)) = some false
theorem RQS.noX {K : PySem.W.Frag} {De : Ends} {ρ : Pl} {H : Hp} {k : Nat} {r : Rt} (h : RQS t K W De ρ H k (NV.noX r)) : RQS t K noW De ρ H k r := by
  cases r with
  | exc c fs s m => exact False.elim h
  | next s m => exact h
  | brk s m => exact h
  | ret d m => exact h
  | stuck => exact h
theorem many_ok (S : SubOk t C X.K) {De : Ends} {ρ : Pl} {H : Hp} {c : Nat} {fs : List (Nat × D)} {s : Sl} {σ : L2.St} {m : Mem} {od : Option Addr} (rm : RelM t X.K ρ H m) (rs : RelS t X.K ρ H m.len s σ) (rx : RepX t X.K ρ H od fs) (bl : belFs m.len fs) :
    ∀ hs : Hs, (∀ h ∈ hs, h.2.1 = none) → RQS t X.K W De ρ H m.len (evHs C hs c fs s m) → wMany X.K W De (hsT t C X.K hs) (.ref (t.ca c)) od σ H
  | [], _, q => by
    simp only [evHs, hNil] at q
    exact q ρ H σ od Ext.refl rm rs rx bl (Nat.le_refl _)
  | (h, i, b) :: hs, hn, q => by
    have hi : i = none := hn _ (List.mem_cons_self ..)
    subst hi
    simp only [evHs, hCons] at q
    show ∃ b', _
    cases h1 : C.sub (2 * c) h with
    | true =>
      simp only [h1, hSuite] at q
      exact ⟨true, S.yes c h h1, (fun _ a _ => ⟨ρ, s, m, rm, rs, q.noX⟩), fun z => by cases z⟩
    | false =>
      simp only [h1] at q
      cases h2 : C.sub (2 * c + 1) h with
      | true =>
        simp only [h2] at q
        exact ⟨false, S.no c h h2, (fun z => by cases z), fun _ => many_ok S rm rs rx bl hs (fun h hh => hn h (List.mem_cons_of_mem _ hh)) q⟩
      | false =>
        simp only [h2] at q
        exact False.elim q
theorem z_try (S : SubOk t C X.K) (tk : Takes X W) (hst : X.stack = X.env :: X.outer) (hfr : X.env.frame = some X.env.locals) {body : List Stmt} {b : List CS} {h0 : ExceptHandler} {hds : List ExceptHandler} {hs : Hs} {pos : Pos} (hn : ∀ h ∈ hs, h.2.1 = none)
    (hb : ∀ (W2 : WX) (pn : List (Addr × Obj)) (xe : Value → Shared → Prop), Takes (X.tr pn xe) W2 → PassesOwn (model X.prog X.w) X.A X.env xe → PSs (X.tr pn xe) body (tS t X.K W2 (evSs C b)))
    (hh : HdsOk X (h0 :: hds) (hsT t C X.K hs)) : PS X (.Try body (h0 :: hds) [] [] pos) (tS t X.K W (sTry (evSs C b) (evHs C hs))) := by
  refine PS.imp (ps_try_many hst hfr tk hb hh) fun De σ H ⟨ρ, s, m, rm, rs, q⟩ => ⟨ρ, s, m, rm, rs, ?_⟩
  unfold sTry at q
  cases hr : evSs C b s m with
  | exc c fs s1 m1 =>
    rw [hr] at q
    exact fun ρ1 H1 σ1 od e1 rm1 rs1 rx bl hl => many_ok S rm1 rs1 rx bl hs hn (RQS.on q e1 hl)
  | next s1 m1 => rw [hr] at q; exact q
  | brk s1 m1 => rw [hr] at q; exact q
  | ret d m1 => rw [hr] at q; exact q
  | stuck => rw [hr] at q; exact q
end
end NV

set_option Elab.async false
set_option linter.all false
set_option maxRecDepth 100000
set_option maxHeartbeats 4000000
/-! NvSts: a text's statements are the evaluator's. -/
namespace NV
open PySem PySem.Spec PyProof.Rows L2

structure Gs (t : Tx) (n : Nx) (C : Ct) (W : WX) (X : Cx) : Prop extends Gd t n C W X where
  pas : PassesOwn (model X.prog X.w) X.A X.env X.xe
  fn : ∀ x, X.fn x = true
  err : ∀ c ∈ n.err, ∀ x, n.cnm[c]? = some x → ErrC X x (t.ca c)
  frm : X.env.frame = some X.env.locals
  stk : X.stack = X.env :: X.outer
  sub : SubOk t C X.K

def locB (N : List Str) (sc : Scope) (i : Nat) (y : Str) : Bool := decide (N[i]? = some y) && decide (sc.names.lookup y = some .local)
def locC (N : List Str) (sc : Scope) (i : Nat) (y : Str) : Bool := decide (N[i]? = some y) && (match sc.names.lookup y with
  | some .local => true
  | some .cell => true
  | _ => false)
/-- stores to several names at once -/
def chkPar (n : Nx) (N : List Str) (sc : Scope) (names : List Str) (g : TG) (e : CE) (tx vx : Expr) : Bool := match g, e, tx, vx with
  | .tp [.nm i, .nm j], .tup es, .Tuple [.Name x _, .Name y _] _ _, .Tuple vs _ _ => decide (names = [x, y]) && (locB N sc i x && (locB N sc j y && (decide (i ≠ j) && (decide (vs.length = 2) && chkEs n N es sc vs))))
  | .tp [.nm i, .nm j, .nm l], .tup es, .Tuple [.Name x _, .Name y _, .Name z _] _ _, .Tuple vs _ _ =>
    decide (names = [x, y, z]) && (locB N sc i x && (locB N sc j y && (locB N sc l z && (decide (i ≠ j ∧ i ≠ l ∧ j ≠ l) && (decide (vs.length = 3) && chkEs n N es sc vs)))))
  | _, _, _, _ => false
def isLcS (g : TG) (e : CE) (tx vx : Expr) (N : List Str) (sc : Scope) : Bool := match g, e, tx, vx with
  | .nm i, .lc _ _ _ _ _ _, .Name y _, .ListComp _ [⟨_, _, _, 0⟩] _ _ => locB N sc i y
  | _, _, _, _ => false
def chkA (n : Nx) (N : List Str) (sc : Scope) (g : TG) (e : CE) (tx vx : Expr) (l : Nat) : Bool :=
  match semVal (swappedStores [tx] vx (envD sc)), semVal (swapsWithSole [tx] vx l (envD sc)) with
  | some none, some false => noStar tx && (chkG N sc (fun _ => true) g tx && chkE n N e sc vx)
  | some none, some true => isLcS g e tx vx N sc && chkE n N e sc vx
  | some (some names), some false => chkPar n N sc names g e tx vx
  | _, _ => false
/-- a clause's suite -/
def chkQ (n : Nx) (N : List Str) (sc : Scope) : List CS → List Stmt → Bool
  | [.ret e], [.Return (some y) _] => qkE e && chkE n N e sc y
  | _, _ => false
def chkHs (n : Nx) (N : List Str) (sc : Scope) : Hs → List ExceptHandler → Bool
  | [], [] => true
  | (h, none, b) :: r, .ExceptHandler (some (.Name x _)) none (st :: sts) _ :: hds => n.err.contains h && (decide (n.cnm[h]? = some x) && (glB sc x && (nmB x && (chkQ n N sc b (st :: sts) && chkHs n N sc r hds))))
  | _, _ => false
theorem chkHs_none {n : Nx} {N : List Str} {sc : Scope} : ∀ {hs : Hs} {hds : List ExceptHandler}, chkHs n N sc hs hds = true → ∀ h ∈ hs, h.2.1 = none
  | [], _, _, h, hh => by cases hh
  | (h, i, b) :: r, hds, q, h', hh => by
    unfold chkHs at q
    split at q
    · rename_i heq
      cases heq
    · rename_i heq
      cases heq
      simp only [Bool.and_eq_true] at q
      rcases List.mem_cons.mp hh with e | hh
      · rw [e]
      · exact chkHs_none q.2.2.2.2.2 _ hh
    · cases q
mutual
def chkS (n : Nx) (N : List Str) (sc : Scope) : CS → Stmt → Bool
  | .pass, x => (match x with
    | .Pass _ => true
    | _ => false)
  | .expr e, x => (match x with
    | .Expr y _ => noComp y && chkE n N e sc y
    | _ => false)
  | .ret e, x => (match x with
    | .Return (some y) _ => chkE n N e sc y
    | _ => false)
  | .retN, x => (match x with
    | .Return none _ => true
    | _ => false)
  | .asg g e, x => (match x with
    | .Assign [tx] vx pos => chkA n N sc g e tx vx pos.line
    | _ => false)
  | .aug i p e, x => (match x with
    | .AugAssign (.Name y _) op v _ => locC N sc i y && (augB op p && chkE n N e sc v)
    | _ => false)
  | .setIx o i e, x => (match x with
    | .Assign [.Subscript ox ix tp] v pos => (match semVal (swappedStores [.Subscript ox ix tp] v (envD sc)), semVal (swapsWithSole [.Subscript ox ix tp] v pos.line (envD sc)) with
      | some none, some false => noSlice ix && (chkE n N o sc ox && (chkE n N i sc ix && chkE n N e sc v))
      | _, _ => false)
    | _ => false)
  | .ife c a b, x => (match x with
    | .If cx ax bx _ => chkT n N c sc cx && (chkSs n N sc a ax && chkSs n N sc b bx)
    | _ => false)
  | .whl c b, x => (match x with
    | .While cx bx [] _ => chkT n N c sc cx && chkSs n N sc b bx
    | _ => false)
  | .for g k es b, x => (match x with
    | .For tgx iter bx [] _ => noSet iter && ((match itArgs sc k tgx iter with
        | some as => chkEs n N es sc as
        | none => false) && (chkG N sc (fun _ => true) g tgx && chkSs n N sc b bx))
    | _ => false)
  | .brk, x => (match x with
    | .Break _ => true
    | _ => false)
  | .rais c es, x => (match es, x with
    | [e], .Raise (some (.Call (.Name y _) [ex] [] _)) none _ => n.err.contains c && (decide (n.cnm[c]? = some y) && (glB sc y && (nmB y && (noStar ex && chkE n N e sc ex))))
    | _, _ => false)
  | .setFl o f e, x => (match x with
    | .Assign [.Attribute ox y _] v _ => decide (n.fld[f]? = some y) && (chkE n N o sc ox && chkE n N e sc v)
    | _ => false)
  | .augFl o f p e, x => (match x with
    | .AugAssign (.Attribute ox y _) op v _ => decide (n.fld[f]? = some y) && (augB op p && (chkE n N o sc ox && chkE n N e sc v))
    | _ => false)
  | .tr b hs, x => (match x with
    | .Try body (h0 :: hds) [] [] _ => chkSs n N sc b body && chkHs n N sc hs (h0 :: hds)
    | _ => false)
  | _, _ => false
termination_by structural c => c
def chkSs (n : Nx) (N : List Str) (sc : Scope) : List CS → List Stmt → Bool
  | [], xs => (match xs with
    | [] => true
    | _ => false)
  | c :: cs, xs => (cs.isEmpty && chkW n N sc c xs) || (match xs with
    | x :: xs => chkS n N sc c x && chkSs n N sc cs xs
    | [] => false)
termination_by structural cs => cs
/-- a block in the place of some statements -/
def chkW (n : Nx) (N : List Str) (sc : Scope) : CS → List Stmt → Bool
  | .sweep _ b, xs => chkSs n N sc b xs
  | _, _ => false
termination_by structural c => c
end
section
variable {t : Tx} {n : Nx} {C : Ct} {W : WX} {X : Cx}
theorem loc_of {i : Nat} {y : Str} (h : locB X.N X.env.scope i y = true) : X.N[i]? = some y ∧ X.env.scope.names.lookup y = some .local := by
  unfold locB at h
  rw [Bool.and_eq_true] at h
  exact ⟨of_decide_eq_true h.1, of_decide_eq_true h.2⟩
theorem locC_of {i : Nat} {y : Str} (h : locC X.N X.env.scope i y = true) : X.N[i]? = some y ∧ Loc X.env.scope y := by
  unfold locC at h
  rw [Bool.and_eq_true] at h
  obtain ⟨h1, h2⟩ := h
  refine ⟨of_decide_eq_true h1, ?_⟩
  split at h2
  · exact .inl (by assumption)
  · exact .inr (by assumption)
  · cases h2
theorem sA (G : Gs t n C W X) {g : TG} {e : CE} {tx vx : Expr} {pos : Pos} (h : chkA n X.N X.env.scope g e tx vx pos.line = true) : PS X (.Assign [tx] vx pos) (tS t X.K W (sAsg g (evE C e))) := by
  unfold chkA at h
  split at h
  · rename_i h1 h2
    simp only [Bool.and_eq_true] at h
    exact z_asg h2 h1 h.1 (sE e W X vx G.toGd h.2.2) (s_tg G.N G.calm (fun x _ => G.fn x) g tx h.2.1)
  · rename_i h1 h2
    rw [Bool.and_eq_true] at h
    obtain ⟨h3, h4⟩ := h
    unfold isLcS at h3
    split at h3
    · obtain ⟨l1, l2⟩ := loc_of h3
      simp only [chkE, Bool.and_eq_true] at h4
      obtain ⟨a1, a2, a3, a4, a5, a6, a7⟩ := h4
      split at a3
      · simp only [evE]
        refine z_setLc G.toGd l1 l2 h2 a1 a2 (s_it G.toGd (by assumption) (sEs _ W X _ G.toGd a3)) a4 a5 (fun W' X' e1 e2 e3 G' => ?_) fun W' X' e1 e2 e3 G' => ?_
        · exact sT1 _ W' X' _ G' (by rw [e2, e3]; exact a6)
        · exact sE _ W' X' _ G' (by rw [e2, e3]; exact a7)
      · cases a3
    · cases h3
  · rename_i names h1 h2
    unfold chkPar at h
    split at h
    · simp only [Bool.and_eq_true, decide_eq_true_eq] at h
      obtain ⟨rfl, b1, b2, b3, b4, b5⟩ := h
      obtain ⟨l1, l2⟩ := loc_of b1
      obtain ⟨l3, l4⟩ := loc_of b2
      obtain ⟨a, b, rfl⟩ := len2 b4
      simp only [evE]
      exact z_par2 G.toGd l1 l3 b3 l2 l4 (sEs _ W X _ G.toGd b5).pa.1 h1
    · simp only [Bool.and_eq_true, decide_eq_true_eq] at h
      obtain ⟨rfl, b1, b2, b3, b4, b5, b6⟩ := h
      obtain ⟨l1, l2⟩ := loc_of b1
      obtain ⟨l3, l4⟩ := loc_of b2
      obtain ⟨l5, l6⟩ := loc_of b3
      obtain ⟨a, b, c, rfl⟩ := len3 b5
      simp only [evE]
      exact z_par3 G.toGd l1 l3 l5 b4.1 b4.2.1 b4.2.2 l2 l4 l6 (sEs _ W X _ G.toGd b6).pa.1 h1
    · cases h
  · cases h
theorem Gs.tr {W2 : WX} (G : Gs t n C W X) {pn : List (Addr × Obj)} {xe : Value → Shared → Prop} (tk : Takes (X.tr pn xe) W2) (ps : PassesOwn (model X.prog X.w) X.A X.env xe) : Gs t n C W2 (X.tr pn xe) :=
  { G.toGd.tr tk with pas := ps, fn := G.fn, err := fun c hc x hx => let e := G.err c hc x hx; ⟨e.base, e.glob, e.kept, e.rz⟩, frm := G.frm, stk := G.stk, sub := G.sub }
theorem hds_ok (G : Gs t n C W X) : ∀ {hs : Hs} {hds : List ExceptHandler}, chkHs n X.N X.env.scope hs hds = true → HdsOk X hds (hsT t C X.K hs)
  | [], hds, q => by
    unfold chkHs at q
    split at q
    · exact .nil
    · rename_i heq
      cases heq
    · cases q
  | (h, i, b) :: r, hds, q => by
    unfold chkHs at q
    split at q
    · rename_i heq
      cases heq
    · rename_i heq
      cases heq
      simp only [Bool.and_eq_true, decide_eq_true_eq] at q
      obtain ⟨q1, q2, q3, q4, q5, q6⟩ := q
      refine .cons ⟨gl_of q3, (nm_of q4).1, .inl (G.err h (by simpa using q1) _ q2).glob⟩ (fun a oe cls d pn _ _ => ?_) (hds_ok G q6)
      unfold chkQ at q5
      split at q5
      · rename_i e y p heq
        cases heq
        simp only [Bool.and_eq_true] at q5
        have z : PE (X.suite a ((a, oe) :: pn)) y (tE t X.K noW (evE C e)) := qk_ok e noW (X.suite a ((a, oe) :: pn)) y q5.1 q5.2
        simp only [evSs, evS]
        exact z_cons (z_ret z) z_nil
      · cases q5
    · cases q
theorem z_last {xs : List Stmt} {b : Sx} (h : PSs X xs (tS t X.K W b)) : PSs X xs (tS t X.K W (sSeq b sPass)) := by
  refine PSs.imp h fun De σ H ⟨ρ, s, m, rm, rs, q⟩ => ⟨ρ, s, m, rm, rs, ?_⟩
  unfold sSeq at q
  cases hr : b s m with
  | next s' m' => rw [hr] at q; exact q
  | brk s' m' => rw [hr] at q; exact q
  | ret d m' => rw [hr] at q; exact q
  | exc c fs s' m' => rw [hr] at q; exact q
  | stuck => rw [hr] at q; exact q
mutual
theorem sS : ∀ (c : CS) (W : WX) (X : Cx) (x : Stmt), Gs t n C W X → chkS n X.N X.env.scope c x = true → PS X x (tS t X.K W (evS C c))
  | .pass, W, X, x, G, h => by
    cases x <;> simp only [chkS] at h <;> try (cases h; done)
    exact z_pass
  | .expr e, W, X, x, G, h => by
    cases x <;> simp only [chkS] at h <;> try (cases h; done)
    simp only [Bool.and_eq_true] at h
    exact z_expr h.1 (sE e W X _ G.toGd h.2)
  | .ret e, W, X, x, G, h => by
    simp only [chkS] at h
    split at h
    · exact z_ret (sE e W X _ G.toGd h)
    · cases h
  | .retN, W, X, x, G, h => by
    simp only [chkS] at h
    split at h
    · exact z_retN
    · cases h
  | .asg g e, W, X, x, G, h => by
    simp only [chkS] at h
    split at h
    · exact sA G h
    · cases h
  | .aug i p e, W, X, x, G, h => by
    simp only [chkS] at h
    split at h
    · simp only [Bool.and_eq_true] at h
      obtain ⟨l1, l2⟩ := locC_of h.1
      exact z_aug G.toGd l1 l2 (G.fn _) h.2.1 (sE e W X _ G.toGd h.2.2)
    · cases h
  | .setIx o i e, W, X, x, G, h => by
    simp only [chkS] at h
    split at h
    · split at h
      · rename_i h1 h2
        simp only [Bool.and_eq_true] at h
        exact z_setIx G.toGd h2 h1 h.1 (sE o W X _ G.toGd h.2.1) (sE i W X _ G.toGd h.2.2.1) (sE e W X _ G.toGd h.2.2.2)
      · cases h
    · cases h
  | .ife c a b, W, X, x, G, h => by
    simp only [chkS] at h
    split at h
    · simp only [Bool.and_eq_true] at h
      exact z_if (sT c W X _ G.toGd h.1) (sSs a W X _ G h.2.1) (sSs b W X _ G h.2.2)
    · cases h
  | .whl c b, W, X, x, G, h => by
    simp only [chkS] at h
    split at h
    · simp only [Bool.and_eq_true] at h
      exact z_while G.pas (sT c W X _ G.toGd h.1) (sSs b W X _ G h.2)
    · cases h
  | .for g k es b, W, X, x, G, h => by
    simp only [chkS] at h
    split at h
    · simp only [Bool.and_eq_true] at h
      obtain ⟨h1, h2, h3, h4⟩ := h
      split at h2
      · exact z_for G.toGd G.pas (s_it G.toGd (by assumption) (sEs es W X _ G.toGd h2)) (s_tg G.N G.calm (fun x _ => G.fn x) g _ h3) (sSs b W X _ G h4) h1
      · cases h2
    · cases h
  | .brk, W, X, x, G, h => by
    simp only [chkS] at h
    split at h
    · exact z_brk
    · cases h
  | .rais c es, W, X, x, G, h => by
    simp only [chkS] at h
    split at h
    · simp only [Bool.and_eq_true] at h
      obtain ⟨h1, h2, h3, h4, h5, h6⟩ := h
      rename_i e y p1 ex p2 p3 
      exact z_raise G.toGd (G.err c (by simpa using h1) _ (of_decide_eq_true h2)) h3 h4 h5 (sE e W X ex G.toGd h6)
    · cases h
  | .setFl o f e, W, X, x, G, h => by
    simp only [chkS] at h
    split at h
    · simp only [Bool.and_eq_true, decide_eq_true_eq] at h
      exact z_setFl G.toGd h.1 (sE o W X _ G.toGd h.2.1) (sE e W X _ G.toGd h.2.2)
    · cases h
  | .augFl o f p e, W, X, x, G, h => by
    simp only [chkS] at h
    split at h
    · simp only [Bool.and_eq_true, decide_eq_true_eq] at h
      exact z_augFl G.toGd h.1 h.2.1 (sE o W X _ G.toGd h.2.2.1) (sE e W X _ G.toGd h.2.2.2)
    · cases h
  | .tr b hs, W, X, x, G, h => by
    simp only [chkS] at h
    split at h
    · simp only [Bool.and_eq_true] at h
      exact z_try G.sub G.tk G.stk G.frm (chkHs_none h.2) (fun W2 pn xe tk2 ps2 => sSs b W2 (X.tr pn xe) _ (G.tr tk2 ps2) h.1) (hds_ok G h.2)
    · cases h
  | .sweep _ _, _, _, _, _, h => by simp only [chkS] at h; cases h
termination_by structural c => c
theorem sSs : ∀ (cs : List CS) (W : WX) (X : Cx) (xs : List Stmt), Gs t n C W X → chkSs n X.N X.env.scope cs xs = true → PSs X xs (tS t X.K W (evSs C cs))
  | [], W, X, xs, G, h => by
    cases xs with
    | nil => exact z_nil
    | cons x xs => simp only [chkSs] at h; cases h
  | c :: cs, W, X, xs, G, h => by
    cases xs with
    | nil =>
      simp only [chkSs, Bool.or_eq_true, Bool.and_eq_true, List.isEmpty_iff] at h
      rcases h with ⟨rfl, h⟩ | h
      · simp only [evSs]
        exact z_last (sW c W X _ G h)
      · cases h
    | cons x xs =>
      simp only [chkSs, Bool.or_eq_true, Bool.and_eq_true, List.isEmpty_iff] at h
      rcases h with ⟨rfl, h⟩ | h
      · simp only [evSs]
        exact z_last (sW c W X _ G h)
      exact z_cons (sS c W X x G h.1) (sSs cs W X xs G h.2)
theorem sW : ∀ (c : CS) (W : WX) (X : Cx) (xs : List Stmt), Gs t n C W X → chkW n X.N X.env.scope c xs = true → PSs X xs (tS t X.K W (evS C c))
  | .sweep is b, W, X, xs, G, h => by
    simp only [chkW] at h
    simp only [evS]
    exact z_sweep (sSs b W X xs G h)
  | .pass, _, _, _, _, h => by simp only [chkW] at h; cases h
  | .expr _, _, _, _, _, h => by simp only [chkW] at h; cases h
  | .ret _, _, _, _, _, h => by simp only [chkW] at h; cases h
  | .retN, _, _, _, _, h => by simp only [chkW] at h; cases h
  | .asg _ _, _, _, _, _, h => by simp only [chkW] at h; cases h
  | .aug _ _ _, _, _, _, _, h => by simp only [chkW] at h; cases h
  | .setIx _ _ _, _, _, _, _, h => by simp only [chkW] at h; cases h
  | .setFl _ _ _, _, _, _, _, h => by simp only [chkW] at h; cases h
  | .augFl _ _ _ _, _, _, _, _, h => by simp only [chkW] at h; cases h
  | .ife _ _ _, _, _, _, _, h => by simp only [chkW] at h; cases h
  | .whl _ _, _, _, _, _, h => by simp only [chkW] at h; cases h
  | .for _ _ _ _, _, _, _, _, h => by simp only [chkW] at h; cases h
  | .brk, _, _, _, _, h => by simp only [chkW] at h; cases h
  | .rais _ _, _, _, _, _, h => by simp only [chkW] at h; cases h
  | .tr _ _, _, _, _, _, h => by simp only [chkW] at h; cases h
termination_by structural c => c
end
end
end NV

set_option Elab.async false
set_option linter.all false
set_option maxRecDepth 100000
set_option maxHeartbeats 4000000
namespace NV
open PySem PySem.Spec PyProof.Rows L2
theorem zip_look : ∀ {ps : List Str} {us : List Value}, ps.Nodup → us.length = ps.length → (ps.filter fun n => ((ps.zip us).lookup n).isNone) = [] ∧ (ps.filterMap fun n => ((ps.zip us).lookup n).map (n, ·)) = ps.zip us := by
  intro ps us hn hl
  have key : ∀ (ps : List Str) (us : List Value) (i : Nat) (n : Str) (u : Value), ps.Nodup → ps[i]? = some n → us[i]? = some u → (ps.zip us).lookup n = some u := by
    intro ps
    induction ps with
    | nil => intro us i n u _ h; cases h
    | cons p ps ih =>
      intro us i n u hn h hu
      cases us with
      | nil => cases hu
      | cons v us =>
        cases i with
        | zero =>
          cases h
          cases hu
          simp [List.lookup]
        | succ i =>
          rw [List.nodup_cons] at hn
          have hne : n ≠ p := fun e => hn.1 (by rw [← e]; exact List.mem_of_getElem? h)
          rw [List.zip_cons_cons, List.lookup_cons]
          have : (n == p) = false := by simpa using hne
          rw [this]
          exact ih us i n u hn.2 h hu
  have one : ∀ n ∈ ps, ∃ (i : Nat) (u : Value), ps[i]? = some n ∧ us[i]? = some u := by
    intro n h
    obtain ⟨i, hi⟩ := List.getElem?_of_mem h
    have := (List.getElem?_eq_some_iff.mp hi).1
    exact ⟨i, us[i], hi, List.getElem?_eq_getElem _⟩
  constructor
  · rw [List.filter_eq_nil_iff]
    intro n h
    obtain ⟨i, u, h1, h2⟩ := one n h
    rw [key ps us i n u hn h1 h2]
    simp
  · have go : ∀ (qs : List Str) (ws : List Value), qs.length = ws.length → (∀ (i : Nat) (n : Str) (u : Value), qs[i]? = some n → ws[i]? = some u → (ps.zip us).lookup n = some u) → (qs.filterMap fun n => ((ps.zip us).lookup n).map (n, ·)) = qs.zip ws := by
      intro qs
      induction qs with
      | nil => intro ws _ _; simp
      | cons q qs ih =>
        intro ws hl h
        cases ws with
        | nil => cases hl
        | cons w ws =>
          have e := h 0 q w rfl rfl
          rw [List.filterMap_cons, e]
          simp only [Option.map_some, List.zip_cons_cons]
          rw [ih ws (by simpa using hl) fun i n u h1 h2 => h (i + 1) n u (by simpa using h1) (by simpa using h2)]
    exact go ps us hl.symm fun i n u h1 h2 => key ps us i n u hn h1 h2
theorem bind_plain {fd : FuncData} {as : List Arg} {dfs : List Expr} {kd : List (Option Expr)} {ps : List Str} {us : List Value} (hp : fd.params = ⟨[], as, none, [], kd, none, dfs⟩) (ha : as.map (·.arg) = ps) (hd : fd.defaults = .none) (hn : ps.Nodup) (hl : us.length = ps.length) : bindArgs fd ⟨us, []⟩ = pure (ps.zip us) := by
  obtain ⟨z1, z2⟩ := zip_look hn hl
  unfold bindArgs
  simp only [hp, hd, List.map_nil, List.nil_append, ha, List.append_nil, List.forIn_nil, pure_bind]
  have e1 : seqItems? .none = pure none := rfl
  rw [e1]
  simp only [pure_bind, Option.getD_none, Array.toList_empty]
  have e2 : ¬ us.length > ps.length := by omega
  have e3 : decide (us.length > ps.length) = false := by simpa using e2
  simp only [e3, Bool.false_and, Bool.false_eq_true, if_false, List.drop_nil, List.length_nil, Nat.zero_sub, Nat.sub_zero, List.take_length, z1, List.isEmpty_nil, Bool.not_true, List.zip_nil_right, List.forIn_nil, pure_bind, z2]

/-! ### a def's end -/
theorem fn_end {t : Tx} {K : PySem.W.Frag} {ρ : Pl} {H : Hp} {m : Mem} {r : Rt} {Q : VK} {E : XK} (he : ∀ p ∈ m.wr, p.2 ≤ m.len) (h : RQ srD t K E ρ H m.len (endR m r) Q) : RQS t K (fun c d _ H' => E c d H') { nx := fun _ H' => Q .non H', rt := Q } ρ H m.len r := by
  cases r with
  | next s' m' =>
    intro ρ' H' σ' e rm rs hl
    obtain ⟨z1, z2⟩ := cln_ok rm he hl
    have h' : RQ srD t K E ρ H m.len (.ok .non (cln m m')) Q := h
    exact h' ρ' H' .non (e.trim len_cln) z1 (show Rep t K ρ' H' .non .non from Rep.non) (show D.bel (cln m m').len .non from bel_non) z2
  | brk s' m' => exact False.elim h
  | ret d m' =>
    intro ρ' H' v e rm rp bl hl
    obtain ⟨d', m2, ρ2, e1, e2, rm2, rp2, bl2, hl2⟩ := clean_ok he e rm rp bl hl
    have h' : RQ srD t K E ρ H m.len (clean m d m') Q := h
    rw [e1] at h'
    exact h' ρ2 H' v e2 rm2 rp2 bl2 hl2
  | exc c fs s' m' =>
    intro ρ' H' σ' od e rm rs rx bl hl
    have h' : RQ srD t K E ρ H m.len (.exc c fs (if nlFs fs then cln m m' else m')) Q := h
    cases hn : nlFs fs with
    | true =>
      rw [hn, if_pos rfl] at h'
      obtain ⟨z1, z2⟩ := cln_ok rm he hl
      exact h' ρ' H' od (e.trim len_cln) z1 rx (belFs_nl fs hn) z2
    | false =>
      rw [hn, if_neg Bool.false_ne_true] at h'
      exact h' ρ' H' od e rm rx bl hl
  | stuck => exact False.elim h
theorem start_rel {t : Tx} {K : PySem.W.Frag} {ρ : Pl} {H : Hp} {k : Nat} {N : List Str} {fd : Fd} {ds : List NV.D} {vs : List V} (rps : Reps t K ρ H ds vs) (bls : D.bels k ds) (hN : N.length = fd.ns) : RelS t K ρ H k (startS fd ds) (L2.start N vs) := by
  have hl := rps.length
  refine ⟨by unfold startS L2.start; simp [hl, hN], fun i d h => ?_⟩
  unfold startS at h
  by_cases hi : i < ds.length
  · rw [List.getElem?_append_left (by simpa using hi), List.getElem?_map] at h
    cases e : ds[i]? with
    | none => rw [e] at h; cases h
    | some x =>
      rw [e] at h
      cases h
      obtain ⟨v, h1, h2⟩ := rps.get e
      refine ⟨v, ?_, h2, bels_get bls e⟩
      unfold L2.start
      rw [List.getElem?_append_left (by rw [List.length_map, ← hl]; exact hi), List.getElem?_map, h1]
      rfl
  · rw [List.getElem?_append_right (by simp; omega), List.getElem?_replicate] at h
    split at h <;> cases h

/-! ### what a head tells of a text -/
open He
/-- a value stands for data in the written part -/
def repB (K : PySem.W.Frag) : Nat → NV.D → Value → Bool
  | 0, _, _ => false
  | f + 1, d, u => (match d, u with
    | .non, .none => true
    | .bl b, .bool c => b == c
    | .int i, .int j _ => decide (i = j)
    | .str s, .str z _ => decide (s = z)
    | .tup ds, .ref a => (match K.lookup a with
      | some ⟨.type c, _, .seq its _, _⟩ => decide (c = "tuple") && (decide (its.size ≤ sizeLine) && (decide (ds.length = its.toList.length) && (ds.zip its.toList).all fun p => repB K f p.1 p.2))
      | _ => false)
    | _, _ => false)
structure Txt where
  T : Ft
  n : Nx
  ds : List DefD
  nm : List (List Str)
/-- the code object of a def, its table -/
def Txt.cP (X : Txt) (K : PySem.W.Frag) (k : Nat) : Addr × Addr := match X.ds[k]? with
  | some d => cT K d.at_
  | none => (0, 0)
def Txt.lq (X : Txt) (k : Nat) : Str := match X.ds[k]? with
  | some d => d.qual ++ ".<locals>." ++ "<lambda>"
  | none => ""
def Txt.tbs (X : Txt) (K : PySem.W.Frag) : List (Addr × Str) := X.T.lmk.map fun k => ((X.cP K k).2, X.lq k)
def Txt.fa (X : Txt) (K : PySem.W.Frag) (k : Nat) : Addr := match X.ds[k]? with
  | some d => fAd K d.at_
  | none => 0
def Txt.tx (X : Txt) (K : PySem.W.Frag) : Tx := ⟨X.T, X.fa K, fun k => ga K (X.n.cnm.getD k ""), fun k => X.n.fld.getD k "", X.tbs K⟩
/-- the facts of the classes -/
def Txt.clsB (X : Txt) (K : PySem.W.Frag) : Bool :=
  (X.T.fok.all fun p => match X.n.cnm[p.1]?, X.n.fld[p.2]? with
    | some x, some y => (Fa.cls x).ok K && (Fa.noat x y).ok K
    | _, _ => false) && ((X.T.mth.all fun p => match X.n.cnm[p.1]?, X.n.fld[p.2.1]?, X.ds[p.2.2]? with
    | some x, some y, some d => (Fa.cls x).ok K && ((Fa.meth x y).ok K && decide (d.at_ = (x, some y)))
    | _, _, _ => false) && X.T.ini.all fun p => match X.n.cnm[p.1]?, X.ds[p.2]? with
    | some x, some d => (Fa.mkr x).ok K && ((Fa.glo x).ok K && decide (d.at_ = (x, some ("__init__" : Str))))
    | _, _ => false)
/-- the facts of the head, as one check -/
def Txt.okB (X : Txt) (K : PySem.W.Frag) : Bool :=
  (X.n.fnm.all fun x => x == ("" : Str) || (Fa.glo x).ok K) && ((biNames.all fun x => (Fa.free x).ok K) && ((X.n.err.all fun c => match X.n.cnm[c]? with
    | some x => (Fa.glo x).ok K && (Fa.exc x).ok K
    | none => false) && (((X.n.gnm.zip X.T.gl).all fun p => match PySem.W.nsIn K mainGlobals p.1 with
      | some (some u) => repB K 10 p.2 u
      | _ => false) && (X.clsB K && ((X.T.sub.all fun p => decide (PySem.W.exmOne K (.ref (ga K (X.n.cnm.getD (p.1 / 2) ""))) (.ref (ga K (X.n.cnm.getD p.2 ""))) = some (decide (p.1 % 2 = 0)))) &&
      ((X.tbs K).all fun p => (X.tbs K).all fun q => !decide (p.1 = q.1) || decide (p.2 = q.2)))))))
def Txt.obs (X : Txt) (K : PySem.W.Frag) : AlD := (X.okB K && X.ds.all fun d => d.ok K, X.ds.map fun d => fnW K d.at_)
/-- the makers' tables are empty -/
structure Txt.Emp (X : Txt) (h : Heap) (K : PySem.W.Frag) : Prop where
  hd : ∀ k ∈ X.T.lmk, PySem.W.codeHdIn K (X.cP K k).1 (X.cP K k).2 = true
  out : ∀ k ∈ X.T.lmk, K.lookup (X.cP K k).2 = none
  emp : ∀ k ∈ X.T.lmk, h.get? (X.cP K k).2 = some { cls := .none, data := .fields #[] }
def Txt.empB (X : Txt) (g : Addr → Option Obj) (K : PySem.W.Frag) : Bool := X.T.lmk.all fun k => PySem.W.codeHdIn K (X.cP K k).1 (X.cP K k).2 && (match g (X.cP K k).2 with
  | some o => emptyTab o
  | none => false)
theorem Txt.emp_of {X : Txt} {h : Heap} {as : List Addr} (e : X.empB h.get? (frT h.get? as) = true) : X.Emp h (frT h.get? as) := by
  have key : ∀ k ∈ X.T.lmk, PySem.W.codeHdIn (frT h.get? as) (X.cP (frT h.get? as) k).1 (X.cP (frT h.get? as) k).2 = true ∧ ∃ o, h.get? (X.cP (frT h.get? as) k).2 = some o ∧ emptyTab o = true := fun k hk => by
    have q := List.all_eq_true.mp e k hk
    rw [Bool.and_eq_true] at q
    refine ⟨q.1, ?_⟩
    have q2 := q.2
    split at q2
    · exact ⟨_, by assumption, q2⟩
    · cases q2
  refine ⟨fun k hk => (key k hk).1, fun k hk => ?_, fun k hk => ?_⟩
  · obtain ⟨_, o, e1, e2⟩ := key k hk
    exact frT_none e1 e2
  · obtain ⟨_, o, e1, e2⟩ := key k hk
    rw [e1, emptyTab_eq e2]
def Txt.obsG (X : Txt) (n : Nat) (g : Addr → Option Obj) : AlD × Bool := (X.obs (frT g (asD g n)), X.empB g (frT g (asD g n)))
def Txt.hook (X : Txt) (n : Nat) : PySem.W.Hook where
  α := AlD × Bool
  obs := fun s => X.obsG n s.heap.get?
  val := fun _ => ((true, X.ds.map DefD.val), true)
  says := fun _ h => ∃ K : PySem.W.Frag, K.In h ∧ X.obs K = (true, X.ds.map DefD.val) ∧ X.Emp h K
  of := fun _ _ e => ⟨_, frT_in, congrArg Prod.fst e, Txt.emp_of (congrArg Prod.snd e)⟩
  keeps := fun _ _ _ ⟨K, hK, c, m⟩ k => ⟨K, PySem.W.Frag.In.keeps hK k, c, m.hd, m.out, fun j hj => k _ _ (m.emp j hj)⟩
theorem Txt.obsG_eq {X : Txt} {n : Nat} {g : Addr → Option Obj} {s : Shared} (h : ∀ a, g a = s.heap.get? a) : X.obsG n g = (X.hook n).obs s := by
  have e : g = s.heap.get? := funext h
  rw [e]
  rfl

theorem vals_refl2 {K : PySem.W.Frag} {t : Tx} {f : Nat} (ih : ∀ (d : NV.D) (u : Value), repB K f d u = true → ∃ v, RelV v u ∧ (∀ ρ H, Rep t K ρ H d v) ∧ ∀ j, d.bel j) : ∀ (ds : List NV.D) (us : List Value), ds.length = us.length → ((ds.zip us).all fun p => repB K f p.1 p.2) = true → ∃ vs, Vals vs us ∧ (∀ ρ H, Reps t K ρ H ds vs) ∧ ∀ j, D.bels j ds
  | [], [], _, _ => ⟨[], .nil, fun _ _ => by simp only [Reps], fun _ => by simp only [D.bels]⟩
  | d :: ds, u :: us, hl, h => by
    simp only [List.zip_cons_cons, List.all_cons, Bool.and_eq_true] at h
    obtain ⟨v, r, q1, q2⟩ := ih d u h.1
    obtain ⟨vs, rs, q3, q4⟩ := vals_refl2 ih ds us (by simpa using hl) h.2
    exact ⟨v :: vs, .cons r rs, fun ρ H => by simp only [Reps]; exact ⟨q1 ρ H, q3 ρ H⟩, fun j => by simp only [D.bels]; exact ⟨q2 j, q4 j⟩⟩
  | [], _ :: _, hl, _ => by cases hl
  | _ :: _, [], hl, _ => by cases hl
theorem repB_ok {K : PySem.W.Frag} {t : Tx} : ∀ (f : Nat) (d : NV.D) (u : Value), repB K f d u = true → ∃ v, RelV v u ∧ (∀ ρ H, Rep t K ρ H d v) ∧ ∀ j, d.bel j
  | 0, _, _, h => by cases h
  | f + 1, d, u, h => by
    cases d <;> cases u <;> simp only [repB] at h <;> try (cases h; done)
    · exact ⟨.non, rfl, fun _ _ => Rep.non, fun _ => bel_non⟩
    · exact ⟨.bl _, congrArg Value.bool (eq_of_beq h).symm, fun _ _ => Rep.bl, fun _ => bel_bl⟩
    · rename_i i j tk
      have e := of_decide_eq_true h
      subst e
      exact ⟨.int i, ⟨tk, rfl⟩, fun _ _ => Rep.int, fun _ => bel_int⟩
    · rename_i i j tk
      have e := of_decide_eq_true h
      subst e
      exact ⟨.str i, ⟨tk, rfl⟩, fun _ _ => Rep.str, fun _ => bel_str⟩
    · rename_i ds a
      cases hk : K.lookup a with
      | none => simp only [hk] at h; cases h
      | some o =>
        obtain ⟨oc, od, dt, sl⟩ := o
        simp only [hk] at h
        split at h
        · rename_i c od' its nn sl' heq
          cases heq
          simp only [Bool.and_eq_true, decide_eq_true_eq] at h
          obtain ⟨rfl, h2, h3, h4⟩ := h
          obtain ⟨vs, r, q1, q2⟩ := vals_refl2 (repB_ok f) ds its.toList h3 h4
          refine ⟨.ref a, rfl, fun ρ H => ?_, fun j => by simp only [D.bel]; exact q2 j⟩
          simp only [Rep]
          exact ⟨a, vs, rfl, .inr ⟨_, its, _, hk, rfl, rfl, h2, r⟩, q1 ρ H⟩
        · cases h

/-! ### a def's check -/
def fnSc (N ps : List Str) (sc : Scope) : Bool := (match sc.kind with | .function => true | _ => false) && (!sc.isCoroutine && (!sc.isGenerator && (decide N.Nodup && (decide (N.take ps.length = ps) && ((ps.all fun x => decide (sc.names.lookup x = some .local) || decide (sc.names.lookup x = some .cell)) && sc.names.all fun y => decide (y.2 ≠ .free))))))
theorem fnSc_ok {N ps : List Str} {sc : Scope} (h : fnSc N ps sc = true) : FnScope N ps sc := by
  unfold fnSc at h
  simp only [Bool.and_eq_true, Bool.not_eq_true', decide_eq_true_eq, List.all_eq_true, Bool.or_eq_true] at h
  obtain ⟨h1, h2, h3, h4, h5, h6, h7⟩ := h
  refine ⟨?_, h2, h3, h4, h5, h6, h7⟩
  split at h1
  · assumption
  · cases h1
def plainAr (a : Arguments) : Bool := a.posonlyargs.isEmpty && (a.vararg.isNone && (a.kwonlyargs.isEmpty && a.kwarg.isNone))
def arNames (a : Arguments) : List Str := a.args.map (·.arg)
/-- a def of the text is the table's -/
def chkF (n : Nx) (d : DefD) (N : List Str) (fd : Fd) : Bool :=
  decide (N.length = fd.ns) && (decide ((arNames d.params).length = fd.np) && (plainAr d.params && (d.dfl.isEmpty && (d.kwd.isEmpty && (fnSc N (arNames d.params) d.scope && (decide (arNames d.params).Nodup && chkSs n N d.scope fd.body d.body))))))
/-- a def that takes a lambda is the table's: it calls it first of all -/
def lamSh (n : Nx) (N : List Str) (sc : Scope) : List CS → List Stmt → Bool
  | .tr [.expr (.act _)] hs :: r, .Try [.Expr (.Call (.Name a _) [] [] _) _] (h0 :: hds) [] [] _ :: rest => decide (N[0]? = some a) && (visB sc a && (nmB a && (chkHs n N sc hs (h0 :: hds) && chkSs n N sc r rest)))
  | _, _ => false
def chkL (n : Nx) (d : DefD) (N : List Str) (fd : Fd) : Bool :=
  decide (N.length = fd.ns) && (decide ((arNames d.params).length = fd.np) && (plainAr d.params && (d.dfl.isEmpty && (d.kwd.isEmpty && (fnSc N (arNames d.params) d.scope && (decide (arNames d.params).Nodup && (decide (fd.np = 1) && lamSh n N d.scope fd.body d.body)))))))
def chkD (ltk : List Nat) (k : Nat) (n : Nx) (d : DefD) (N : List Str) (fd : Fd) : Bool := match hasN ltk k with
  | true => chkL n d N fd
  | false => chkF n d N fd
/-- the body of a def that takes a lambda -/
theorem taker_ok {t : Tx} {n : Nx} {C : Ct} {P : Program} {w : World} {K : PySem.W.Frag} {mg : Str → Option Value} {base : Heap} {N : List Str} {qual : Str} {scope : Scope} {f : Addr} {cdv : Value} {A : Around} {outer : List Env} {s : Shared} {H : Hp} {E : XK} {W : WX} {b : List CS} {xs : List Stmt} {x : Addr} {ρ : Pl} {m : Mem} {De : Ends} {s0 : Sl} {σ : L2.St}
    (G : Gs t n C W (cxOf (L2.CX P w) P w K mg base N qual scope f cdv A outer s H E)) (h : lamSh n N scope b xs = true) (act : Act t P w K mg base A outer s H x C.thk ρ m) (rm : RelM t K ρ H m) (rs : RelS t K ρ H m.len s0 σ) (h0 : σ[0]? = some (some (.ref x))) (q : RQS t K W De ρ H m.len (evSs C b s0 m)) :
    ∃ u, PSs (cxOf (L2.CX P w) P w K mg base N qual scope f cdv A outer s H E) xs u ∧ u De σ H := by
  unfold lamSh at h
  split at h
  · rename_i i hs r a p1 p2 p3 hh0 hds p4 rest
    simp only [Bool.and_eq_true, decide_eq_true_eq] at h
    obtain ⟨g1, g2, g3, g4, g5⟩ := h
    have body : ∀ (W2 : WX) (pn : List (Addr × Obj)) (xe : Value → Shared → Prop), Takes ((cxOf (L2.CX P w) P w K mg base N qual scope f cdv A outer s H E).tr pn xe) W2 → PassesOwn (model P w) (A.deeper (envOfC qual scope s.heap.objs.size f cdv)) (envOfC qual scope s.heap.objs.size f cdv) xe →
        PSs ((cxOf (L2.CX P w) P w K mg base N qual scope f cdv A outer s H E).tr pn xe) [.Expr (.Call (.Name a p1) [] [] p2) p3] (fun D σz Hz => σz[0]? = some (some (.ref x)) ∧ Hz = H ∧ RQ srD t K (WE W2 σz) ρ H m.len (C.thk m) (fun _ H' => D.nx σz H')) := fun W2 pn xe tk _ =>
      PSs.imp (pss_one (ps_expr (act N qual scope f cdv a pn xe W2 E p1 p2 g1 (vis_of g2) (nm_of g3).1 (nm_of g3).2 tk) rfl)) fun D σz Hz z => z
    refine ⟨_, pss_cons (ps_try_many (Wout := W) (l := hsT t C K hs) rfl rfl G.tk body (hds_ok G g4)) (sSs r _ _ rest G g5), h0, rfl, ?_⟩
    simp only [evSs, evS, evE, sSeq, sTry, sExpr, xAct] at q
    cases hr : C.thk m with
    | ok d m1 =>
      rw [hr] at q
      intro ρ1 H1 v e1 rm1 rp bl hl
      obtain ⟨z1, z2⟩ := cln_ok rm1 rm.esc hl
      have e2 := e1.trim (len_cln (m := m))
      exact ⟨ρ1, s0, cln m m1, z1, rs.ext e2 z2, RQS.on (show RQS t K W De ρ H m.len (evSs C r s0 (cln m m1)) from q) e2 z2⟩
    | exc c fs m1 =>
      rw [hr] at q
      intro ρ1 H1 od e1 rm1 rx bl hl
      have q1 : RQS t K W De ρ H m.len ((evHs C hs c fs s0 m1).and (evSs C r)) := q
      refine many_ok G.sub rm1 (rs.ext e1 hl) rx bl hs (chkHs_none g4) ?_
      refine RQS.on ?_ e1 hl
      refine RQS.seq q1 rfl rfl fun s2 m2 ρ2 H2 σ2 e2 rm2 rs2 hl2 q2 => ⟨ρ2, s2, m2, rm2, rs2, RQS.on q2 e2 hl2⟩
    | stuck =>
      rw [hr] at q
      exact False.elim q
  · cases h
structure Txt.Ok (X : Txt) : Prop where
  len : X.n.fnm.length = X.T.fns.length
  lenD : X.ds.length = X.T.fns.length
  lenN : X.nm.length = X.T.fns.length
  lenG : X.n.gnm.length = X.T.gl.length
  nod : X.n.fld.Nodup ∧ ("" : Str) ∉ X.n.fld
  fn : ∀ (k : Nat) (d : DefD) (N : List Str) (fd : Fd) (x : Str), X.ds[k]? = some d → X.nm[k]? = some N → X.T.fns[k]? = some fd → X.n.fnm[k]? = some x → chkD X.T.ltk k X.n d N fd = true ∧ ((x == ("" : Str)) = false → d.at_ = (x, none))
section
variable {X : Txt} {P : Program} {w : World} {K : PySem.W.Frag} {mg : Str → Option Value} {base : Heap} {h : Heap}
theorem Txt.says (c : X.obs K = (true, X.ds.map DefD.val)) : X.okB K = true ∧ ∀ (k : Nat) (d : DefD), X.ds[k]? = some d → ∃ fd, FunD K d.name d.qual d.params d.body d.scope (d.dvs K) (d.kws K) (fAd K d.at_) fd := by
  have c1 : (X.okB K && X.ds.all fun d => d.ok K) = true := congrArg (fun z : AlD => z.1) c
  rw [Bool.and_eq_true] at c1
  refine ⟨c1.1, fun k d hk => ?_⟩
  have e : X.ds.map (fun d => fnW K d.at_) = X.ds.map DefD.val := congrArg (fun z : AlD => z.2) c
  have e2 : (X.ds.map fun d => fnW K d.at_)[k]? = (X.ds.map DefD.val)[k]? := by rw [e]
  rw [List.getElem?_map, List.getElem?_map, hk] at e2
  exact DefD.funD (Option.some.inj e2) (List.all_eq_true.mp c1.2 d (List.mem_of_getElem? hk))
theorem has2_ok : ∀ {l : List (Nat × Nat)} {c f : Nat}, has2 l c f = true → ∃ p ∈ l, p.1 = c ∧ p.2 = f
  | (a, b) :: r, c, f, h => by
    simp only [has2, Bool.or_eq_true, Bool.and_eq_true] at h
    rcases h with ⟨h1, h2⟩ | h
    · exact ⟨(a, b), List.mem_cons_self .., Nat.eq_of_beq_eq_true h1, Nat.eq_of_beq_eq_true h2⟩
    · obtain ⟨p, hp, q⟩ := has2_ok h
      exact ⟨p, List.mem_cons_of_mem _ hp, q⟩
theorem lk2_ok : ∀ {l : List (Nat × Nat × Nat)} {c f k : Nat}, lk2 l c f = some k → (c, f, k) ∈ l
  | (a, b, j) :: r, c, f, k, h => by
    unfold lk2 at h
    split at h
    · rename_i hc
      rw [Bool.and_eq_true] at hc
      cases h
      rw [← Nat.eq_of_beq_eq_true hc.1, ← Nat.eq_of_beq_eq_true hc.2]
      exact List.mem_cons_self ..
    · exact List.mem_cons_of_mem _ (lk2_ok h)
theorem lk1_ok : ∀ {l : List (Nat × Nat)} {c k : Nat}, lk1 l c = some k → (c, k) ∈ l
  | (a, j) :: r, c, k, h => by
    unfold lk1 at h
    split at h
    · rename_i hc
      cases h
      rw [← Nat.eq_of_beq_eq_true hc]
      exact List.mem_cons_self ..
    · exact List.mem_cons_of_mem _ (lk1_ok h)
theorem fn_pick (O : X.Ok) : ∀ (k : Nat) (x : Str), X.n.fnm[k]? = some x → ∃ d N fdT, X.ds[k]? = some d ∧ X.nm[k]? = some N ∧ X.T.fns[k]? = some fdT := fun k x hk => by
  have hl := (List.getElem?_eq_some_iff.mp hk).1
  rw [O.len] at hl
  exact ⟨X.ds[k]'(by rw [O.lenD]; exact hl), X.nm[k]'(by rw [O.lenN]; exact hl), X.T.fns[k], List.getElem?_eq_getElem _, List.getElem?_eq_getElem _, List.getElem?_eq_getElem _⟩
theorem chkD_args {ltk : List Nat} {k : Nat} {n : Nx} {d : DefD} {N : List Str} {fd : Fd} (h : chkD ltk k n d N fd = true) : N.length = fd.ns ∧ (arNames d.params).length = fd.np ∧ plainAr d.params = true ∧ d.dfl = [] ∧ d.kwd = [] ∧ fnSc N (arNames d.params) d.scope = true ∧ (arNames d.params).Nodup := by
  unfold chkD at h
  split at h
  · unfold chkL at h
    simp only [Bool.and_eq_true, decide_eq_true_eq, List.isEmpty_iff] at h
    obtain ⟨a1, a2, a3, a4, a5, a6, a7, _⟩ := h
    exact ⟨a1, a2, a3, a4, a5, a6, a7⟩
  · unfold chkF at h
    simp only [Bool.and_eq_true, decide_eq_true_eq, List.isEmpty_iff] at h
    obtain ⟨a1, a2, a3, a4, a5, a6, a7, _⟩ := h
    exact ⟨a1, a2, a3, a4, a5, a6, a7⟩
theorem fn_base (O : X.Ok) (c : X.obs K = (true, X.ds.map DefD.val)) : ∀ (k : Nat) (x : Str), X.n.fnm[k]? = some x → ∃ fd ps, Binds K fd ps [] ∧ (∃ d, X.ds[k]? = some d ∧ FunD K d.name d.qual d.params d.body d.scope [] [] ((X.tx K).fa k) fd ∧ ∃ N fdT, X.T.fns[k]? = some fdT ∧ chkD X.T.ltk k X.n d N fdT = true ∧ ps = arNames d.params) := fun k x hk => by
  obtain ⟨c1, c2⟩ := Txt.says c
  obtain ⟨d, N, fdT, h1, h2, h3⟩ := fn_pick O k x hk
  obtain ⟨q1, q2⟩ := O.fn k d N fdT x h1 h2 h3 hk
  obtain ⟨fd, F⟩ := c2 k d h1
  obtain ⟨a1, a2, a3, a4, a5, a6, a7⟩ := chkD_args q1
  have ea : fAd K d.at_ = (X.tx K).fa k := by
    show _ = X.fa K k
    unfold Txt.fa
    rw [h1]
  rw [ea] at F
  have e1 : d.dvs K = [] := by unfold DefD.dvs; rw [a4]; rfl
  have e2 : d.kws K = [] := by unfold DefD.kws; rw [a5]; rfl
  rw [e1, e2] at F
  refine ⟨fd, arNames d.params, FunD.bindsN F fun kV doc pm an cdv ct us hl => ?_, d, h1, F, N, fdT, h3, q1, rfl⟩
  unfold plainAr at a3
  simp only [Bool.and_eq_true, List.isEmpty_iff, Option.isNone_iff_eq_none] at a3
  obtain ⟨p1, p2, p3, p4⟩ := a3
  refine bind_plain (as := d.params.args) (dfs := d.params.defaults) (kd := d.params.kw_defaults) ?_ rfl rfl a7 hl
  show d.params = _
  generalize d.params = pr at p1 p2 p3 p4
  obtain ⟨y1, y2, y3, y4, y5, y6, y7⟩ := pr
  simp only at p1 p2 p3 p4
  subst p1 p2 p3 p4
  rfl
/-- what holds in a def's body -/
theorem gs_all (O : X.Ok) (KX : K.In h) (G : h.Ns mainGlobals mg) (c : X.obs K = (true, X.ds.map DefD.val)) {lv : Nat} (ih : ∀ (k : Nat) (x : Str), X.n.fnm[k]? = some x → ∃ fd ps, Binds K fd ps [] ∧ FnG P w K mg base (4 * lv) ((X.tx K).fa k) fd ps (spF (X.tx K) K ((callL X.T lv).1 k)))
    {lc : LamC} {th : Mem → Rs NV.D} {N : List Str} {qual : Str} {scope : Scope} {f : Addr} {cdv : Value} {A : Around} {outer : List Env} {s : Shared} {H : Hp} {E : XK} (nd : N.Nodup) (room : Room (4 * lv + 3) (A.deeper (envOfC qual scope s.heap.objs.size f cdv))) (hg : (A.deeper (envOfC qual scope s.heap.objs.size f cdv)).guards = some [])
    (lam : ∀ k x, X.n.fnm[k]? = some x → (∀ th m, lc k th m = .stuck) ∨ LamD (X.tx K) (cxOf (L2.CX P w) P w K mg base N qual scope f cdv A outer s H E) X.n.fnm (fun j => spF (X.tx K) K ((callL X.T lv).1 j)) ((X.tx K).fa k) (lc k)) :
    Gs (X.tx K) X.n (ctOf X.T (callL X.T lv).1 lc th) (fun c d _ H' => E c d H') (cxOf (L2.CX P w) P w K mg base N qual scope f cdv A outer s H E) := by
  obtain ⟨c1, c2⟩ := Txt.says c
  unfold Txt.okB at c1
  simp only [Bool.and_eq_true] at c1
  obtain ⟨b1, b2, b3, b4, b5, b8, b9⟩ := c1
  unfold Txt.clsB at b5
  simp only [Bool.and_eq_true] at b5
  obtain ⟨b5, b6, b7⟩ := b5
  have pick := fn_pick O
  have base_ := fn_base O c
  have un2 : (A.deeper (envOfC qual scope s.heap.objs.size f cdv)).units + 65 < cLine := by
    have q := room.un
    omega
  refine { N := nd, calm := rfl, tk := L2.takes_of rfl rfl rfl rfl, gu := hg, un := un2, bi := ?_, glo := ?_, fns := ?_, fng := ?_, atn := ?_, fok := ?_, mth := ?_, ini := ?_, lam := lam, pas := L2.passes_of (K := fun e s'' => L2.CX P w outer H s E e s'') rfl, fn := fun _ => rfl, err := ?_, frm := rfl, stk := rfl, sub := ?_ }
  · intro y hy
    exact free_ok KX G (List.all_eq_true.mp b2 y hy)
  · intro j y hy
    have hl := (List.getElem?_eq_some_iff.mp hy).1
    have hl2 : j < X.T.gl.length := by rw [← O.lenG]; exact hl
    have hz : (X.n.gnm.zip X.T.gl)[j]? = some (y, X.T.gl[j]) := by
      rw [List.getElem?_zip_eq_some]
      exact ⟨hy, List.getElem?_eq_getElem hl2⟩
    have q := List.all_eq_true.mp b4 _ (List.mem_of_getElem? hz)
    simp only at q
    split at q
    · rename_i u hu
      obtain ⟨v, r1, r2, r3⟩ := repB_ok (t := X.tx K) 10 _ u q
      have eg : (ctOf X.T (callL X.T lv).1 lc th).gl j = X.T.gl[j] := by
        show X.T.gl.getD j .thk = _
        rw [List.getD_eq_getElem?_getD, List.getElem?_eq_getElem hl2]
        rfl
      rw [eg]
      exact ⟨v, u, PySem.W.mg_of KX G hu, r1, r2, r3⟩
    · cases q
  · intro j y hy hne
    have q := List.all_eq_true.mp b1 y (List.mem_of_getElem? hy)
    rw [hne, Bool.false_or] at q
    obtain ⟨dj, Nj, fj, g1, g2, g3⟩ := pick j y hy
    have ey : (X.tx K).fa j = ga K y := by
      show X.fa K j = _
      unfold Txt.fa
      rw [g1]
      show fAd K dj.at_ = _
      rw [(O.fn j dj Nj fj y g1 g2 g3 hy).2 hne]
      rfl
    obtain ⟨fd2, ps2, _, d2, _, F2, _⟩ := base_ j y hy
    exact ⟨by rw [ey]; exact glo_ok KX G q, F2.kp⟩
  · intro j y hy
    obtain ⟨fd2, ps2, hb2, f2⟩ := ih j y hy
    exact ⟨4 * lv, fd2, ps2, room.mono (by omega), hb2, f2⟩
  · intro f y hy
    refine ⟨by show X.n.fld.getD f "" = y; rw [List.getD_eq_getElem?_getD, hy]; rfl, fun k hk => ?_⟩
    have hk' : X.n.fld.getD k "" = y := hk
    rw [List.getD_eq_getElem?_getD] at hk'
    cases e : X.n.fld[k]? with
    | none =>
      rw [e] at hk'
      exact absurd (List.mem_of_getElem? hy) (by rw [← hk']; exact O.nod.2)
    | some z =>
      rw [e] at hk'
      have ez : z = y := hk'
      rw [ez, ← hy] at e
      exact (List.getElem?_inj (List.getElem?_eq_some_iff.mp (e.trans hy)).1 O.nod.1).mp e
  · intro c f y hc hy
    obtain ⟨p, hp, e1, e2⟩ := has2_ok hc
    have q := List.all_eq_true.mp b5 p hp
    rw [e1, e2, hy] at q
    cases hx : X.n.cnm[c]? with
    | none => rw [hx] at q; cases q
    | some x =>
      rw [hx] at q
      simp only [Bool.and_eq_true] at q
      have ec : (X.tx K).ca c = ga K x := by
        show ga K (X.n.cnm.getD c "") = _
        rw [List.getD_eq_getElem?_getD, hx]
        rfl
      rw [ec]
      exact ⟨cls_ok q.1, noat_ok q.2⟩
  · intro c f k y hc hy
    have hp := lk2_ok hc
    have q := List.all_eq_true.mp b6 _ hp
    simp only [hy] at q
    cases hx : X.n.cnm[c]? with
    | none => rw [hx] at q; cases q
    | some x =>
      cases hd : X.ds[k]? with
      | none => rw [hx, hd] at q; cases q
      | some dk =>
        rw [hx, hd] at q
        simp only [Bool.and_eq_true, decide_eq_true_eq] at q
        have ec : (X.tx K).ca c = ga K x := by
          show ga K (X.n.cnm.getD c "") = _
          rw [List.getD_eq_getElem?_getD, hx]
          rfl
        have ek : (X.tx K).fa k = ma K (ga K x) y := by
          show X.fa K k = _
          unfold Txt.fa
          rw [hd]
          show fAd K dk.at_ = _
          rw [q.2.2]
          rfl
        rw [ec, ek]
        have hl := (List.getElem?_eq_some_iff.mp hd).1
        rw [O.lenD, ← O.len] at hl
        exact ⟨cls_ok q.1, meth_ok q.2.1, _, List.getElem?_eq_getElem hl⟩
  · intro c k y hc hy
    have hp := lk1_ok hc
    have q := List.all_eq_true.mp b7 _ hp
    simp only [hy] at q
    cases hd : X.ds[k]? with
    | none => rw [hd] at q; cases q
    | some dk =>
      rw [hd] at q
      simp only [Bool.and_eq_true, decide_eq_true_eq] at q
      have ec : (X.tx K).ca c = ga K y := by
        show ga K (X.n.cnm.getD c "") = _
        rw [List.getD_eq_getElem?_getD, hy]
        rfl
      have ek : (X.tx K).fa k = ma K (ga K y) "__init__" := by
        show X.fa K k = _
        unfold Txt.fa
        rw [hd]
        show fAd K dk.at_ = _
        rw [q.2.2]
        rfl
      rw [ec, ek]
      have hl := (List.getElem?_eq_some_iff.mp hd).1
      rw [O.lenD, ← O.len] at hl
      exact ⟨mkr_ok q.1, glo_ok KX G q.2.1, _, List.getElem?_eq_getElem hl⟩
  · intro cc hc y hy
    have q := List.all_eq_true.mp b3 cc hc
    rw [hy] at q
    simp only [Bool.and_eq_true] at q
    have ey : (X.tx K).ca cc = ga K y := by
      show ga K (X.n.cnm.getD cc "") = _
      rw [List.getD_eq_getElem?_getD, hy]
      rfl
    obtain ⟨e1, e2, e3, e4⟩ := exc_ok q.2
    rw [ey]
    exact ⟨e1, glo_ok KX G q.1, e2, raises_own e3 e4⟩
  · have key : ∀ p ∈ X.T.sub, PySem.W.exmOne K (.ref ((X.tx K).ca (p.1 / 2))) (.ref ((X.tx K).ca p.2)) = some (decide (p.1 % 2 = 0)) := fun p hp => of_decide_eq_true (List.all_eq_true.mp b8 p hp)
    refine ⟨fun a b q => ?_, fun a b q => ?_⟩
    · obtain ⟨p, hp, e1, e2⟩ := has2_ok (show has2 X.T.sub (2 * a) b = true from q)
      have z := key p hp
      rw [e1, e2, show 2 * a / 2 = a by omega, show decide (2 * a % 2 = 0) = true by simp] at z
      exact z
    · obtain ⟨p, hp, e1, e2⟩ := has2_ok (show has2 X.T.sub (2 * a + 1) b = true from q)
      have z := key p hp
      rw [e1, e2, show (2 * a + 1) / 2 = a by omega, show decide ((2 * a + 1) % 2 = 0) = false by simp] at z
      exact z
theorem hasN_ok : ∀ {l : List Nat} {k : Nat}, hasN l k = true → k ∈ l
  | a :: r, k, h => by
    simp only [hasN, Bool.or_eq_true] at h
    rcases h with h | h
    · rw [Nat.eq_of_beq_eq_true h]
      exact List.mem_cons_self ..
    · exact List.mem_cons_of_mem _ (hasN_ok h)
theorem sh_stuck {n : Nx} {N : List Str} {sc : Scope} {T : Ft} {call : Nat → List NV.D → Mem → Rs NV.D} {lc : LamC} {b : List CS} {xs : List Stmt} (h : lamSh n N sc b xs = true) (s : Sl) (m : Mem) : evSs (ctOf T call lc fun _ => .stuck) b s m = .stuck := by
  unfold lamSh at h
  split at h
  · simp only [evSs, evS, evE, sSeq, sTry, sExpr, xAct, ctOf, Rs.then, Rt.and]
  · cases h
/-- every def of the text promises the evaluator's call -/
theorem fn_all2 (O : X.Ok) (KX : K.In h) (G : h.Ns mainGlobals mg) (c : X.obs K = (true, X.ds.map DefD.val)) (TB : ∀ k ∈ X.T.lmk, LamX.TabB base mg (X.cP K k).1 (X.cP K k).2) : ∀ (lv : Nat),
    (∀ (k : Nat) (x : Str), X.n.fnm[k]? = some x → ∃ fd ps, Binds K fd ps [] ∧ FnG P w K mg base (4 * lv) ((X.tx K).fa k) fd ps (spF (X.tx K) K ((callL X.T lv).1 k))) ∧
    ∀ (k : Nat) (x : Str), X.n.fnm[k]? = some x → (∀ th m, (callL X.T lv).2 k th m = .stuck) ∨ ∃ fd ps, Binds K fd ps [] ∧ LmG (X.tx K) P w K mg base (4 * lv) ((X.tx K).fa k) fd ps ((callL X.T lv).2 k) := by
  intro lv
  induction lv with
  | zero =>
    refine ⟨fun k x hk => ?_, fun k x hk => .inl fun _ _ => rfl⟩
    obtain ⟨fd, ps, hb, _⟩ := fn_base O c k x hk
    exact ⟨fd, ps, hb, fun vs H Q E ⟨ρ, ds, m, _, _, _, q⟩ => False.elim q, fun A outer s H args us vs Q E _ _ _ _ _ ⟨ρ, ds, m, _, _, _, q⟩ => False.elim q⟩
  | succ lv ih =>
    obtain ⟨ih1, ih2⟩ := ih
    refine ⟨fun k x hk => ?_, fun k x hk => ?_⟩
    · obtain ⟨fd, ps, hb, d, hd, F, N, fdT, h3, hq, rfl⟩ := fn_base O c k x hk
      refine ⟨fd, _, hb, ?_⟩
      obtain ⟨a1, a2, a3, a4, a5, a6, a7⟩ := chkD_args hq
      obtain ⟨oc, od, dV, kV, doc, pm, an, cdv, ct, osl, rfl, lk, hcd, _, _⟩ := F.ex
      have S := fnSc_ok a6
      have un : ∀ ds m, (callL X.T (lv + 1)).1 k ds m = runFn (ctOf X.T (callL X.T lv).1 (lamF X.T (callL X.T lv).2 k) fun _ => .stuck) fdT ds m := fun ds m => by
        show (match X.T.fns[k]? with
          | some fd => runFn (ctOf X.T (callL X.T lv).1 (lamF X.T (callL X.T lv).2 k) fun _ => .stuck) fd ds m
          | none => .stuck) = _
        rw [h3]
      have lenD : ∀ (ds : List NV.D) (m : Mem) (ρ : Pl) (H : Hp) (Q : VK) (E : XK), RQ srD (X.tx K) K E ρ H m.len ((callL X.T (lv + 1)).1 k ds m) Q → ds.length = fdT.np ∧ RQ srD (X.tx K) K E ρ H m.len (endR m (evSs (ctOf X.T (callL X.T lv).1 (lamF X.T (callL X.T lv).2 k) fun _ => .stuck) fdT.body (startS fdT ds) m)) Q := fun ds m ρ H Q E q => by
        rw [un] at q
        unfold runFn at q
        cases hc : (ds.length == fdT.np) with
        | true =>
          rw [hc, if_pos rfl] at q
          exact ⟨eq_of_beq hc, q⟩
        | false =>
          rw [hc, if_neg Bool.false_ne_true] at q
          exact False.elim q
      refine FnG.of (k := 4 * lv + 3) lk hcd S (fun vs H Q E ⟨ρ, ds, m, rm, rps, bls, q⟩ => ?_) fun A outer s H vs Q E room hg ⟨ρ, ds, m, rm, rps, bls, q⟩ => ?_
      · rw [← rps.length, (lenD ds m ρ H Q E q).1, a2]
      · obtain ⟨_, q2⟩ := lenD ds m ρ H Q E q
        unfold chkD at hq
        split at hq
        · unfold chkL at hq
          simp only [Bool.and_eq_true] at hq
          rw [sh_stuck hq.2.2.2.2.2.2.2.2] at q2
          exact False.elim q2
        · unfold chkF at hq
          simp only [Bool.and_eq_true] at hq
          refine ⟨tS (X.tx K) K (fun c d _ H' => E c d H') (evSs (ctOf X.T (callL X.T lv).1 (lamF X.T (callL X.T lv).2 k) fun _ => .stuck) fdT.body), sSs fdT.body _ (cxOf (L2.CX P w) P w K mg base N d.qual d.scope ((X.tx K).fa k) cdv A outer s H E) d.body (gs_all O KX G c ih1 S.nd room hg ?_) hq.2.2.2.2.2.2.2, ρ, startS fdT ds, m, rm, start_rel rps bls a1, fn_end rm.esc q2⟩
          intro j y hj
          cases hm : hasN X.T.lmk k with
          | false =>
            refine .inl fun _ _ => ?_
            unfold lamF
            rw [hm]
            rfl
          | true =>
            rcases ih2 j y hj with z | ⟨fd2, ps2, hb2, L⟩
            · refine .inl fun th m => ?_
              unfold lamF
              rw [hm]
              exact z th m
            · have km := hasN_ok hm
              obtain ⟨c0, rfl⟩ := codeIn_ref hcd
              have eat : fAd K d.at_ = (X.tx K).fa k := by
                show _ = X.fa K k
                unfold Txt.fa
                rw [hd]
              have ec : (X.cP K k).1 = c0 := by
                unfold Txt.cP
                rw [hd]
                exact codeOf_eq (by rw [eat]; exact lk) rfl
              have tb := TB k km
              rw [ec] at tb
              have eq : X.lq k = d.qual ++ ".<locals>." ++ "<lambda>" := by
                unfold Txt.lq
                rw [hd]
              have mem : ((X.cP K k).2, d.qual ++ ".<locals>." ++ "<lambda>") ∈ X.tbs K := by
                rw [← eq]
                exact List.mem_map.mpr ⟨k, km, rfl⟩
              refine .inr ⟨c0, (X.cP K k).2, 4 * lv, fd2, ps2, ih1, room, rfl, tb, mem, fun p hp e => ?_, hb2, ?_⟩
              · have c1 := (Txt.says c).1
                unfold Txt.okB at c1
                simp only [Bool.and_eq_true] at c1
                have z := List.all_eq_true.mp (List.all_eq_true.mp c1.2.2.2.2.2.2 p hp) _ mem
                simp only [Bool.or_eq_true, Bool.not_eq_true', decide_eq_true_eq, decide_eq_false_iff_not] at z
                exact z.resolve_left fun z => z e
              · have e : lamF X.T (callL X.T lv).2 k j = (callL X.T lv).2 j := by
                  unfold lamF
                  rw [hm]
                rw [e]
                exact L
    · cases hl : hasN X.T.ltk k with
      | false =>
        refine .inl fun th m => ?_
        show (match hasN X.T.ltk k with
          | true => _
          | false => _) = _
        rw [hl]
      | true =>
        obtain ⟨fd, ps, hb, d, hd, F, N, fdT, h3, hq, rfl⟩ := fn_base O c k x hk
        refine .inr ⟨fd, _, hb, ?_⟩
        obtain ⟨a1, a2, a3, a4, a5, a6, a7⟩ := chkD_args hq
        obtain ⟨oc, od, dV, kV, doc, pm, an, cdv, ct, osl, rfl, lk, hcd, _, _⟩ := F.ex
        have S := fnSc_ok a6
        unfold chkD at hq
        rw [hl] at hq
        unfold chkL at hq
        simp only [Bool.and_eq_true, decide_eq_true_eq] at hq
        have hnp := hq.2.2.2.2.2.2.2.1
        have hsh := hq.2.2.2.2.2.2.2.2
        have one : (arNames d.params).length = 1 := by rw [a2, hnp]
        refine ⟨one, fun A outer s H args x th ρ m Q E room hg e0 hbd rm act q => ?_⟩
        have q2 : RQ srD (X.tx K) K E ρ H m.len (endR m (evSs (ctOf X.T (callL X.T lv).1 noLc th) fdT.body (startS fdT [.thk]) m)) Q := by
          have e : (callL X.T (lv + 1)).2 k th m = endR m (evSs (ctOf X.T (callL X.T lv).1 noLc th) fdT.body (startS fdT [.thk]) m) := by
            show (match hasN X.T.ltk k with
              | true => (match X.T.fns[k]? with
                | some fd => runFn (ctOf X.T (callL X.T lv).1 noLc th) fd [.thk] m
                | none => .stuck)
              | false => .stuck) = _
            rw [hl, h3]
            show runFn _ fdT _ _ = _
            unfold runFn
            rw [hnp]
            rfl
          rw [← e]
          exact q
        refine LamX.run_ofS (N := N) (ps := arNames d.params) (us := [.ref x]) (vs := [.ref x]) (k := 4 * lv + 3) lk hcd S room e0 hbd (.cons rfl .nil) one.symm fun room2 => ?_
        have Gx : Gs (X.tx K) X.n (ctOf X.T (callL X.T lv).1 noLc th) (fun c d _ H' => E c d H') (cxOf (L2.CX P w) P w K mg base N d.qual d.scope ((X.tx K).fa k) cdv A outer s H E) := gs_all O KX G c ih1 S.nd room2 hg fun _ _ _ => .inl fun _ _ => rfl
        have st := start_rel (t := X.tx K) (K := K) (ρ := ρ) (H := H) (k := m.len) (N := N) (fd := fdT) (ds := [.thk]) (vs := [.ref x]) (by simp only [Reps, Rep, and_true]) (by simp only [D.bels, D.bel, and_true]) a1
        obtain ⟨u, hu, hz⟩ := taker_ok Gx hsh act rm st (by
          have l0 : 0 < (L2.start N [V.ref x]).length := by unfold L2.start; simp
          unfold L2.start
          rfl) (fn_end rm.esc q2)
        exact ⟨u, hu, hz⟩
theorem fn_all (O : X.Ok) (KX : K.In h) (G : h.Ns mainGlobals mg) (c : X.obs K = (true, X.ds.map DefD.val)) (TB : ∀ k ∈ X.T.lmk, LamX.TabB base mg (X.cP K k).1 (X.cP K k).2) (lv k : Nat) (x : Str) (hk : X.n.fnm[k]? = some x) : ∃ fd ps, Binds K fd ps [] ∧ FnG P w K mg base (4 * lv) ((X.tx K).fa k) fd ps (spF (X.tx K) K ((callL X.T lv).1 k)) :=
  (fn_all2 O KX G c TB lv).1 k x hk
end
end NV

set_option Elab.async false
set_option linter.all false
set_option maxRecDepth 100000
set_option maxHeartbeats 4000000
/-! NvEnd: a law's end over the evaluator. -/
namespace NV
open PySem PySem.Spec PyProof.Rows L2

/-- a class's statement -/
def clsAt (s : Stmt) (j : Nat) : Stmt := match s with
  | .ClassDef _ _ _ b _ _ _ _ _ _ _ => b.getD j (.Pass ⟨0, 0, 0, 0⟩)
  | _ => .Pass ⟨0, 0, 0, 0⟩
/-- what is tracked at first: the script, the empty tables -/
def scrH (K : PySem.W.Frag) (ts : List Addr) (a : Addr) (us : List Value) (ns : List Int) : Hp := fun b =>
  if b ∈ ts then some (.tbl #[]) else if b = a ∧ K.lookup a = none then some (.frz { cls := .type "list", data := .seq us.toArray } (.lst (ns.map V.int))) else none
section
variable {P : Program} {w : World} {K : PySem.W.Frag} {mg mb : Str → Option Value} {s1 : Shared} {a : Addr} {us : List Value} {ns : List Int} {cs : List (Addr × Addr)} {ts : List Addr}
theorem scrH_some {b : Addr} {u : HO} (h : scrH K ts a us ns b = some u) : (b ∈ ts ∧ u = .tbl #[]) ∨ (b = a ∧ K.lookup a = none ∧ u = .frz { cls := .type "list", data := .seq us.toArray } (.lst (ns.map V.int))) := by
  unfold scrH at h
  split at h
  · rename_i hc
    exact .inl ⟨hc, (Option.some.inj h).symm⟩
  · split at h
    · rename_i hc
      exact .inr ⟨hc.1, hc.2, (Option.some.inj h).symm⟩
    · cases h
/-- what is known of the tables at the head's end -/
structure TabsAt (K : PySem.W.Frag) (h : Heap) (cs : List (Addr × Addr)) : Prop where
  emp : ∀ p ∈ cs, h.get? p.2 = some { cls := .none, data := .fields #[] }
  out : ∀ p ∈ cs, K.lookup p.2 = none
  hd : ∀ p ∈ cs, PySem.W.CodeHd h p.1 p.2
def tsOf (cs : List (Addr × Addr)) : List Addr := cs.map (·.2)
theorem tsOf_get {h : Heap} (T : TabsAt K h cs) {b : Addr} (hb : b ∈ tsOf cs) : ∃ c, (c, b) ∈ cs ∧ h.get? b = some { cls := .none, data := .fields #[] } ∧ K.lookup b = none := by
  obtain ⟨p, hp, rfl⟩ := List.mem_map.mp hb
  exact ⟨p.1, hp, T.emp p hp, T.out p hp⟩
/-- an object that is neither a list nor an empty table is not tracked -/
theorem scrH_free (T : TabsAt K s1.heap cs) (ob : s1.heap.get? a = some { cls := .type "list", data := .seq us.toArray }) {b : Addr} {o : Obj} (e : s1.heap.get? b = some o) (h1 : ∀ vs n, o.data ≠ .seq vs n) (h2 : o.data ≠ .fields #[]) : scrH K (tsOf cs) a us ns b = none := by
  cases q : scrH K (tsOf cs) a us ns b with
  | none => rfl
  | some u =>
    rcases scrH_some q with ⟨hb, _⟩ | ⟨rfl, _, _⟩
    · obtain ⟨_, _, e2, _⟩ := tsOf_get T hb
      rw [e] at e2
      cases e2
      exact absurd rfl h2
    · rw [ob] at e
      cases e
      exact absurd rfl (h1 _ _)
theorem tabB_at (T : TabsAt K s1.heap cs) (ob : s1.heap.get? a = some { cls := .type "list", data := .seq us.toArray }) (gns : s1.heap.Ns mainGlobals mg)
    (hbm : ∃ (bm : Addr) (o : Obj), mg "__builtins__" = some (.ref bm) ∧ bm ≠ builtinsNs ∧ s1.heap.get? bm = some o ∧ o.cls = .type "module" ∧ o.dict = some builtinsNs ∧ o.data = .plain) : ∀ p ∈ cs, LamX.TabB (hidT s1.heap (scrH K (tsOf cs) a us ns)) mg p.1 p.2 := fun p hp => by
  have e0 := T.emp p hp
  obtain ⟨go, ges, gep, g1, g2, _⟩ := gns
  have keep : ∀ {b : Addr} {o : Obj}, s1.heap.get? b = some o → (∀ vs n, o.data ≠ .seq vs n) → o.data ≠ .fields #[] → (hidT s1.heap (scrH K (tsOf cs) a us ns)).get? b = some o := fun e h1 h2 => hidT_get e (scrH_free T ob e h1 h2)
  refine ⟨?_, ?_, fun z => ?_⟩
  · obtain ⟨o, fs, file, tf, flags, tg, inF, text, tt, c1, c2, c3, c4, c5⟩ := T.hd p hp
    refine ⟨o, fs, file, tf, flags, tg, inF, text, tt, keep c1 (fun vs n z => ?_) (fun z => ?_), c2, c3, c4, c5⟩
    · rw [c3] at z
      cases z
    · rw [c3] at z
      cases z
      simp at c4
  · obtain ⟨bm, o, m1, m2, m3, m4, m5, m6⟩ := hbm
    refine ⟨bm, o, m1, m2, fun z => ?_, fun z => ?_, keep m3 (fun vs n z => ?_) (fun z => ?_), m4, m5, m6⟩
    · rw [z, g1] at m3
      cases m3
      rw [g2] at m6
      cases m6
    · rw [z, e0] at m3
      cases m3
      cases m6
    · rw [m6] at z
      cases z
    · rw [m6] at z
      cases z
  · rw [z, e0] at g1
    cases g1
    cases g2
/-- the call of a law's def: the script and the tables are tracked -/
theorem law_run {lv : Nat} {fa : Addr} {fd : FuncData} {ps : List Str} {sp : Sp} (kin : K.In s1.heap) (gns : s1.heap.Ns mainGlobals mg) (bns : s1.heap.Ns builtinsNs mb) (bbt : ∀ y : Str, y ≠ "__name__" → mb y = bootBuiltins y) (nol : s1.heap.NoLimit) (gen0 : s1.gens = #[])
    (T : TabsAt K s1.heap cs) (ob : s1.heap.get? a = some { cls := .type "list", data := .seq us.toArray }) (iv : IntsAre us ns) (sz : ns.length ≤ sizeLine) (room : Room lv callerA) (F : FnG P w K mg (hidT s1.heap (scrH K (tsOf cs) a us ns)) lv fa fd ps sp) (bnd : Binds K fd ps [])
    (say : ∀ H : Hp, RoAt K H a ns → (∀ p ∈ cs, H p.2 = some (.tbl #[])) → sp [.ref a] H (fun v _ => v = .bl true) fun _ _ _ => False) :
    codeAny (model P w) callerA (.call (.ref fa) ⟨[.ref a], []⟩) (fun r s' => r = .ok (.ret (.bool true)) ∧ OldK s1.heap s'.heap ∧ s'.os = s1.os ∧ AllBare s'.gens) s1 := by
  have rv := vals_ints iv
  have lu := iv.length
  have aT : a ∉ tsOf cs := fun z => by
    obtain ⟨_, _, e2, _⟩ := tsOf_get T z
    rw [ob] at e2
    cases (show Data.seq us.toArray _ = Data.fields #[] from congrArg Obj.data (Option.some.inj e2))
  have free := @scrH_free K s1 a us ns cs T ob
  have tb : ∀ p ∈ cs, scrH K (tsOf cs) a us ns p.2 = some (.tbl #[]) := fun p hp => if_pos (List.mem_map.mpr ⟨p, hp, rfl⟩)
  have hro : RoAt K (scrH K (tsOf cs) a us ns) a ns := by
    cases hk : K.lookup a with
    | none => exact .inl ⟨{ cls := .type "list", data := .seq us.toArray }, (if_neg aT).trans (if_pos ⟨rfl, hk⟩)⟩
    | some o =>
      have q := kin a o hk
      rw [ob] at q
      cases q
      exact .inr ⟨_, us.toArray, _, hk, rfl, rfl, rfl, by rw [List.size_toArray, lu]; exact sz, by simpa using rv⟩
  have hs := fun {b : Addr} {u : HO} (q : scrH K (tsOf cs) a us ns b = some u) => scrH_some q
  generalize scrH K (tsOf cs) a us ns = H at F free tb hro hs
  have hok : HOk P w H s1.heap := fun b u q => by
    rcases hs q with ⟨hb, rfl⟩ | ⟨rfl, _, rfl⟩
    · obtain ⟨_, _, e2, _⟩ := tsOf_get T hb
      exact e2
    · exact ⟨ob, by rw [List.length_map]; exact sz, us, _, rv, ob⟩
  have nsx : ∀ {b : Addr} {m : Str → Option Value}, s1.heap.Ns b m → (hidT s1.heap H).Ns b m := fun {b m} x => by
    obtain ⟨o, es, ep, e, d, r⟩ := x
    exact ⟨o, es, ep, hidT_get e (free e (fun _ _ z => by rw [d] at z; cases z) fun z => by rw [d] at z; cases z), d, r⟩
  have kinB : K.In (hidT s1.heap H) := fun b o e => by
    refine hidT_get (kin b o e) ?_
    cases q : H b with
    | none => rfl
    | some u =>
      rcases hs q with ⟨hb, _⟩ | ⟨rfl, z, _⟩
      · obtain ⟨_, _, _, z⟩ := tsOf_get T hb
        rw [z] at e
        cases e
      · rw [z] at e
        cases e
  have hM : Mod K mg (hidT s1.heap H) := by
    obtain ⟨mc, l1, l2⟩ := nol
    exact ⟨kinB, nsx gns, ⟨mb, nsx bns, bbt⟩, ⟨mc, nsx l1, l2⟩⟩
  have e0 : Env0 P w K mg (hidT s1.heap H) callerA [] s1 H := by
    refine ⟨rfl, hM, fun b o e => of_hidT e, Nat.le_of_eq (hidT_size _ _), trivial, fun b hb => ?_, hok, .of_eq gen0⟩
    cases (show b ∈ ([] : List Addr) from hb)
  have hl : ([Value.ref a] ++ []).length = ps.length := by
    have q := F.len _ _ _ _ (say H hro tb)
    simpa using q
  have hb' := bnd s1 [.ref a] kin hl
  have run := F.run callerA [] s1 H ⟨[.ref a], []⟩ [.ref a] [.ref a] _ _ room rfl e0 (by simpa using hb') (.cons rfl .nil) (say H hro tb)
  refine codeAny_mono run fun r s' q => ?_
  cases r with
  | error e =>
    obtain ⟨_, _, _, _, _, _, _, _, _, _, _, _, z⟩ := q
    exact False.elim z
  | ok fl =>
    cases fl with
    | ret u =>
      obtain ⟨v, H', hos, hbare, un, hok', rr, qv⟩ := q
      have qv' : v = .bl true := qv
      subst qv'
      have eu : u = Value.bool true := rr
      subst eu
      have same : ∀ b o, b ∉ tsOf cs → s1.heap.get? b = some o → s'.heap.get? b = some o := fun b o nb e => by
        cases qb : H b with
        | none => exact un.keep b o e qb (fun z => by cases (show b ∈ ([] : List Addr) from z)) (by simp)
        | some u2 =>
          rcases hs qb with ⟨hb, _⟩ | ⟨rfl, _, rfl⟩
          · exact absurd hb nb
          · obtain ⟨k2, _⟩ := hok' b _ (un.frzs b _ _ qb)
            rw [ob] at e
            cases e
            exact k2
      have more : ∀ p ∈ cs, ∃ xs : Array Value, s'.heap.get? p.2 = some { cls := .none, data := .fields xs } := fun p hp => by
        obtain ⟨xs, z⟩ := un.tbls p.2 #[] (tb p hp)
        exact ⟨#[] ++ xs, hok' p.2 _ z⟩
      refine ⟨rfl, ⟨fun b o e => ?_, fun b o e => ?_⟩, hos, hbare⟩
      · by_cases hb : b ∈ tsOf cs
        · obtain ⟨c, hp, e2, _⟩ := tsOf_get T hb
          obtain ⟨xs, hx⟩ := more _ hp
          have e3 := e.symm.trans e2
          cases e3
          exact .inr (.inl ⟨((T.hd _ hp).tab e2).isCodeTable, rfl, #[], xs, rfl, hx.trans (by rw [Array.empty_append])⟩)
        · exact .inl (same b o hb e)
      · by_cases hb : b ∈ tsOf cs
        · obtain ⟨c, hp, _, _⟩ := tsOf_get T hb
          obtain ⟨xs, hx⟩ := more _ hp
          exact ⟨_, hx⟩
        · exact ⟨o, same b o hb e⟩
    | next => exact False.elim q
    | brk => exact False.elim q
    | cont => exact False.elim q
end
/-- the list check of a text -/
def Txt.chk1 (lt : List Nat) (n : Nx) : Nat → List He.DefD → List (List Str) → List Fd → List Str → Bool
  | j, d :: ds, N :: nm, f :: fs, x :: xs => chkD lt j n d N f && ((x == ("" : Str) || decide (d.at_ = (x, none))) && Txt.chk1 lt n (j + 1) ds nm fs xs)
  | _, [], [], [], [] => true
  | _, _, _, _, _ => false
theorem Txt.chk1_ok {lt : List Nat} {n : Nx} : ∀ {j : Nat} {ds : List He.DefD} {nm : List (List Str)} {fs : List Fd} {xs : List Str}, Txt.chk1 lt n j ds nm fs xs = true → xs.length = fs.length ∧ ds.length = fs.length ∧ nm.length = fs.length ∧
    ∀ (k : Nat) (d : He.DefD) (N : List Str) (fd : Fd) (x : Str), ds[k]? = some d → nm[k]? = some N → fs[k]? = some fd → xs[k]? = some x → chkD lt (j + k) n d N fd = true ∧ ((x == ("" : Str)) = false → d.at_ = (x, none))
  | j, d :: ds, N :: nm, f :: fs, x :: xs, h => by
    simp only [Txt.chk1, Bool.and_eq_true, Bool.or_eq_true, decide_eq_true_eq] at h
    obtain ⟨h1, h2, h3⟩ := h
    obtain ⟨q1, q2, q3, q4⟩ := Txt.chk1_ok h3
    refine ⟨by simp [q1], by simp [q2], by simp [q3], fun k d' N' fd' x' e1 e2 e3 e4 => ?_⟩
    cases k with
    | zero =>
      cases e1
      cases e2
      cases e3
      cases e4
      exact ⟨h1, fun hne => h2.elim (fun z => by rw [hne] at z; cases z) id⟩
    | succ k =>
      have z := q4 k d' N' fd' x' e1 e2 e3 e4
      rw [show j + 1 + k = j + (k + 1) by omega] at z
      exact z
  | _, [], [], [], [], _ => ⟨rfl, rfl, rfl, fun k _ _ _ _ h => by cases h⟩
  | _, [], _ :: _, _, _, h => by simp [Txt.chk1] at h
  | _, [], [], _ :: _, _, h => by simp [Txt.chk1] at h
  | _, [], [], [], _ :: _, h => by simp [Txt.chk1] at h
  | _, _ :: _, [], _, _, h => by simp [Txt.chk1] at h
  | _, _ :: _, _ :: _, [], _, h => by simp [Txt.chk1] at h
  | _, _ :: _, _ :: _, _ :: _, [], h => by simp [Txt.chk1] at h
theorem Txt.ok_by {X : Txt} (h : Txt.chk1 X.T.ltk X.n 0 X.ds X.nm X.T.fns X.n.fnm = true) (hg : X.n.gnm.length = X.T.gl.length) (hn : X.n.fld.Nodup ∧ ("" : Str) ∉ X.n.fld) : X.Ok := by
  obtain ⟨a, b, c, d⟩ := Txt.chk1_ok h
  exact ⟨a, b, c, hg, hn, fun k d' N fd x e1 e2 e3 e4 => by
    have z := d k d' N fd x e1 e2 e3 e4
    rw [Nat.zero_add] at z
    exact z⟩
/-- a law's end -/
theorem nv_walk {l : PySem.W.OpenLaw} {X : Txt} {nn most lv kL : Nat} {q : Program} {loose : List Str} {XP : (Str → Option Value) → Heap → Prop} {d : DefRec} (O : X.Ok) (hn : l.most = some most) (hsz : most ≤ sizeLine) (hdf : d.params.defaults = []) (room : Room (4 * lv) callerA) (hne : (d.name == ("" : Str)) = false)
    (hx : X.n.fnm[kL]? = some d.name) (ev : ∀ ns : List Int, ns.length ≤ most → ∃ m', callN X.T lv kL [.rol ns] ⟨[], []⟩ = .ok (.bl true) m') :
    PySem.W.WalkO q loose XP (X.hook nn).says l.row.toRowW d [] (fun f vs => PySem.call f vs) := by
  refine Att.attach_call hn hdf fun w s0 s1 mg mb fa o pm cd doc a us ns G Y ho hd hcd hmg hobj hints hlen hg => ?_
  obtain ⟨K, kin, c, em⟩ := Y
  have T : TabsAt K s1.heap (X.T.lmk.map (X.cP K)) := by
    refine ⟨fun p hp => ?_, fun p hp => ?_, fun p hp => ?_⟩
    · obtain ⟨k, hk, rfl⟩ := List.mem_map.mp hp
      exact em.emp k hk
    · obtain ⟨k, hk, rfl⟩ := List.mem_map.mp hp
      exact em.out k hk
    · obtain ⟨k, hk, rfl⟩ := List.mem_map.mp hp
      exact PySem.W.codeHd_of_K kin (em.hd k hk)
  have TB := tabB_at (ns := ns) T hobj G.T.g G.T.bmain
  obtain ⟨fd, ps, hb, F⟩ := fn_all (P := l.prog) (w := w) (base := hidT s1.heap (scrH K (tsOf (X.T.lmk.map (X.cP K))) a us ns)) O kin G.T.g c (fun k hk => TB _ (List.mem_map.mpr ⟨k, hk, rfl⟩)) lv kL d.name hx
  have glo : mg d.name = some (.ref ((X.tx K).fa kL)) := by
    have c1 := (Txt.says c).1
    unfold Txt.okB at c1
    simp only [Bool.and_eq_true] at c1
    have q := List.all_eq_true.mp c1.1 d.name (List.mem_of_getElem? hx)
    rw [hne, Bool.false_or] at q
    have ey : (X.tx K).fa kL = He.ga K d.name := by
      have hl := (List.getElem?_eq_some_iff.mp hx).1
      have l1 : kL < X.ds.length := by rw [O.lenD, ← O.len]; exact hl
      have l2 : kL < X.nm.length := by rw [O.lenN, ← O.len]; exact hl
      have l3 : kL < X.T.fns.length := by rw [← O.len]; exact hl
      have q2 := (O.fn kL _ _ _ d.name (List.getElem?_eq_getElem l1) (List.getElem?_eq_getElem l2) (List.getElem?_eq_getElem l3) hx).2 hne
      show X.fa K kL = _
      unfold Txt.fa
      rw [List.getElem?_eq_getElem l1]
      show He.fAd K (X.ds[kL]).at_ = _
      rw [q2]
      rfl
    rw [ey]
    exact He.glo_ok kin G.T.g q
  have ef := hmg.symm.trans glo
  cases ef
  refine law_run kin G.T.g G.T.b G.T.builtins G.T.nolimit hg T hobj hints (Nat.le_trans hlen hsz) room F hb fun H hro htb => ?_
  obtain ⟨m', e⟩ := ev ns hlen
  refine ⟨fun _ => 0, [.rol ns], ⟨[], []⟩, ⟨fun n o h => ?_, fun i j oi oj h => ?_, (fun p hp => by cases hp), fun p hp => ?_⟩, ?_, ?_, ?_⟩
  · simp [Mem.get] at h
  · simp [Mem.get] at h
  · obtain ⟨k, hk, rfl⟩ := List.mem_map.mp (show p ∈ X.tbs K from hp)
    exact LamX.TabS.nil (htb _ (List.mem_map.mpr ⟨k, hk, rfl⟩))
  · simp only [Reps, Rep]
    exact ⟨⟨a, rfl, hro⟩, trivial⟩
  · simp only [D.bels, D.bel]
    exact ⟨trivial, trivial⟩
  · show RQ srD (X.tx K) K _ _ _ _ (callN X.T lv kL [.rol ns] ⟨[], []⟩) _
    rw [e]
    exact fun ρ' H' v _ _ rp _ _ => rep_bl (t := X.tx K) (K := K) (ρ := ρ') (H := H') rp
end NV

set_option Elab.async false
set_option linter.all false
/-! NvStr: words. -/
namespace NV
open PySem
abbrev zs_Get : Str := ⟨#[71, 101, 116]⟩
abbrev zs_Part : Str := ⟨#[80, 97, 114, 116]⟩
abbrev zs_True : Str := ⟨#[84, 114, 117, 101]⟩
abbrev zs_a : Str := ⟨#[97]⟩
abbrev zs_a_page_is_wanted_still : Str := ⟨#[97, 32, 112, 97, 103, 101, 32, 105, 115, 32, 119, 97, 110, 116, 101, 100, 32, 115, 116, 105, 108, 108]⟩
abbrev zs_abort : Str := ⟨#[97, 98, 111, 114, 116]⟩
abbrev zs_aborted : Str := ⟨#[97, 98, 111, 114, 116, 101, 100]⟩
abbrev zs_add : Str := ⟨#[97, 100, 100]⟩
abbrev zs_again : Str := ⟨#[97, 103, 97, 105, 110]⟩
abbrev zs_all : Str := ⟨#[97, 108, 108]⟩
abbrev zs_ask : Str := ⟨#[97, 115, 107]⟩
abbrev zs_bad : Str := ⟨#[98, 97, 100]⟩
abbrev zs_begin : Str := ⟨#[98, 101, 103, 105, 110]⟩
abbrev zs_change : Str := ⟨#[99, 104, 97, 110, 103, 101]⟩
abbrev zs_close : Str := ⟨#[99, 108, 111, 115, 101]⟩
abbrev zs_commit : Str := ⟨#[99, 111, 109, 109, 105, 116]⟩
abbrev zs_commits : Str := ⟨#[99, 111, 109, 109, 105, 116, 115]⟩
abbrev zs_committed : Str := ⟨#[99, 111, 109, 109, 105, 116, 116, 101, 100]⟩
abbrev zs_copy : Str := ⟨#[99, 111, 112, 121]⟩
abbrev zs_count : Str := ⟨#[99, 111, 117, 110, 116]⟩
abbrev zs_deeds : Str := ⟨#[100, 101, 101, 100, 115]⟩
abbrev zs_disk : Str := ⟨#[100, 105, 115, 107]⟩
abbrev zs_done : Str := ⟨#[100, 111, 110, 101]⟩
abbrev zs_durable : Str := ⟨#[100, 117, 114, 97, 98, 108, 101]⟩
abbrev zs_end : Str := ⟨#[101, 110, 100]⟩
abbrev zs_entries_were_forgotten : Str := ⟨#[101, 110, 116, 114, 105, 101, 115, 32, 119, 101, 114, 101, 32, 102, 111, 114, 103, 111, 116, 116, 101, 110]⟩
abbrev zs_entry : Str := ⟨#[101, 110, 116, 114, 121]⟩
abbrev zs_events : Str := ⟨#[101, 118, 101, 110, 116, 115]⟩
abbrev zs_fallen : Str := ⟨#[102, 97, 108, 108, 101, 110]⟩
abbrev zs_firsts : Str := ⟨#[102, 105, 114, 115, 116, 115]⟩
abbrev zs_force : Str := ⟨#[102, 111, 114, 99, 101]⟩
abbrev zs_g : Str := ⟨#[103]⟩
abbrev zs_get : Str := ⟨#[103, 101, 116]⟩
abbrev zs_go : Str := ⟨#[103, 111]⟩
abbrev zs_going : Str := ⟨#[103, 111, 105, 110, 103]⟩
abbrev zs_gone : Str := ⟨#[103, 111, 110, 101]⟩
abbrev zs_held : Str := ⟨#[104, 101, 108, 100]⟩
abbrev zs_high : Str := ⟨#[104, 105, 103, 104]⟩
abbrev zs_inner : Str := ⟨#[105, 110, 110, 101, 114]⟩
abbrev zs_is : Str := ⟨#[105, 115]⟩
abbrev zs_it_does_not_wait : Str := ⟨#[105, 116, 32, 100, 111, 101, 115, 32, 110, 111, 116, 32, 119, 97, 105, 116]⟩
abbrev zs_items : Str := ⟨#[105, 116, 101, 109, 115]⟩
abbrev zs_kept : Str := ⟨#[107, 101, 112, 116]⟩
abbrev zs_key : Str := ⟨#[107, 101, 121]⟩
abbrev zs_known : Str := ⟨#[107, 110, 111, 119, 110]⟩
abbrev zs_leaf : Str := ⟨#[108, 101, 97, 102]⟩
abbrev zs_left : Str := ⟨#[108, 101, 102, 116]⟩
abbrev zs_line : Str := ⟨#[108, 105, 110, 101]⟩
abbrev zs_log : Str := ⟨#[108, 111, 103]⟩
abbrev zs_lost : Str := ⟨#[108, 111, 115, 116]⟩
abbrev zs_low : Str := ⟨#[108, 111, 119]⟩
abbrev zs_many : Str := ⟨#[109, 97, 110, 121]⟩
abbrev zs_mark : Str := ⟨#[109, 97, 114, 107]⟩
abbrev zs_merge : Str := ⟨#[109, 101, 114, 103, 101]⟩
abbrev zs_merged : Str := ⟨#[109, 101, 114, 103, 101, 100]⟩
abbrev zs_nest : Str := ⟨#[110, 101, 115, 116]⟩
abbrev zs_nest_value : Str := ⟨#[110, 101, 115, 116, 32, 118, 97, 108, 117, 101]⟩
abbrev zs_no_page_is_wanted : Str := ⟨#[110, 111, 32, 112, 97, 103, 101, 32, 105, 115, 32, 119, 97, 110, 116, 101, 100]⟩
abbrev zs_none : Str := ⟨#[110, 111, 110, 101]⟩
abbrev zs_not : Str := ⟨#[110, 111, 116]⟩
abbrev zs_not_a_copy : Str := ⟨#[110, 111, 116, 32, 97, 32, 99, 111, 112, 121]⟩
abbrev zs_not_a_disk : Str := ⟨#[110, 111, 116, 32, 97, 32, 100, 105, 115, 107]⟩
abbrev zs_not_a_key : Str := ⟨#[110, 111, 116, 32, 97, 32, 107, 101, 121]⟩
abbrev zs_not_a_log_of_the_tree : Str := ⟨#[110, 111, 116, 32, 97, 32, 108, 111, 103, 32, 111, 102, 32, 116, 104, 101, 32, 116, 114, 101, 101]⟩
abbrev zs_not_a_mark : Str := ⟨#[110, 111, 116, 32, 97, 32, 109, 97, 114, 107]⟩
abbrev zs_not_a_nest : Str := ⟨#[110, 111, 116, 32, 97, 32, 110, 101, 115, 116]⟩
abbrev zs_not_a_number_of_pages : Str := ⟨#[110, 111, 116, 32, 97, 32, 110, 117, 109, 98, 101, 114, 32, 111, 102, 32, 112, 97, 103, 101, 115]⟩
abbrev zs_not_a_number_of_places : Str := ⟨#[110, 111, 116, 32, 97, 32, 110, 117, 109, 98, 101, 114, 32, 111, 102, 32, 112, 108, 97, 99, 101, 115]⟩
abbrev zs_not_a_number_of_steps : Str := ⟨#[110, 111, 116, 32, 97, 32, 110, 117, 109, 98, 101, 114, 32, 111, 102, 32, 115, 116, 101, 112, 115]⟩
abbrev zs_not_a_page : Str := ⟨#[110, 111, 116, 32, 97, 32, 112, 97, 103, 101]⟩
abbrev zs_not_a_pool : Str := ⟨#[110, 111, 116, 32, 97, 32, 112, 111, 111, 108]⟩
abbrev zs_not_a_rest_of_a_log : Str := ⟨#[110, 111, 116, 32, 97, 32, 114, 101, 115, 116, 32, 111, 102, 32, 97, 32, 108, 111, 103]⟩
abbrev zs_not_a_row_of_nests : Str := ⟨#[110, 111, 116, 32, 97, 32, 114, 111, 119, 32, 111, 102, 32, 110, 101, 115, 116, 115]⟩
abbrev zs_not_a_story : Str := ⟨#[110, 111, 116, 32, 97, 32, 115, 116, 111, 114, 121]⟩
abbrev zs_not_a_text : Str := ⟨#[110, 111, 116, 32, 97, 32, 116, 101, 120, 116]⟩
abbrev zs_not_a_tree : Str := ⟨#[110, 111, 116, 32, 97, 32, 116, 114, 101, 101]⟩
abbrev zs_not_a_tuple_of_nests : Str := ⟨#[110, 111, 116, 32, 97, 32, 116, 117, 112, 108, 101, 32, 111, 102, 32, 110, 101, 115, 116, 115]⟩
abbrev zs_not_a_weave : Str := ⟨#[110, 111, 116, 32, 97, 32, 119, 101, 97, 118, 101]⟩
abbrev zs_not_an_operation : Str := ⟨#[110, 111, 116, 32, 97, 110, 32, 111, 112, 101, 114, 97, 116, 105, 111, 110]⟩
abbrev zs_not_open : Str := ⟨#[110, 111, 116, 32, 111, 112, 101, 110]⟩
abbrev zs_not_ready : Str := ⟨#[110, 111, 116, 32, 114, 101, 97, 100, 121]⟩
abbrev zs_not_records : Str := ⟨#[110, 111, 116, 32, 114, 101, 99, 111, 114, 100, 115]⟩
abbrev zs_not_the_number_of_a_page : Str := ⟨#[110, 111, 116, 32, 116, 104, 101, 32, 110, 117, 109, 98, 101, 114, 32, 111, 102, 32, 97, 32, 112, 97, 103, 101]⟩
abbrev zs_number : Str := ⟨#[110, 117, 109, 98, 101, 114]⟩
abbrev zs_open : Str := ⟨#[111, 112, 101, 110]⟩
abbrev zs_operation : Str := ⟨#[111, 112, 101, 114, 97, 116, 105, 111, 110]⟩
abbrev zs_order : Str := ⟨#[111, 114, 100, 101, 114]⟩
abbrev zs_order_value : Str := ⟨#[111, 114, 100, 101, 114, 32, 118, 97, 108, 117, 101]⟩
abbrev zs_other : Str := ⟨#[111, 116, 104, 101, 114]⟩
abbrev zs_outer : Str := ⟨#[111, 117, 116, 101, 114]⟩
abbrev zs_page : Str := ⟨#[112, 97, 103, 101]⟩
abbrev zs_pages : Str := ⟨#[112, 97, 103, 101, 115]⟩
abbrev zs_parents : Str := ⟨#[112, 97, 114, 101, 110, 116, 115]⟩
abbrev zs_part : Str := ⟨#[112, 97, 114, 116]⟩
abbrev zs_places : Str := ⟨#[112, 108, 97, 99, 101, 115]⟩
abbrev zs_pool : Str := ⟨#[112, 111, 111, 108]⟩
abbrev zs_put : Str := ⟨#[112, 117, 116]⟩
abbrev zs_read : Str := ⟨#[114, 101, 97, 100]⟩
abbrev zs_ready : Str := ⟨#[114, 101, 97, 100, 121]⟩
abbrev zs_records : Str := ⟨#[114, 101, 99, 111, 114, 100, 115]⟩
abbrev zs_records_value : Str := ⟨#[114, 101, 99, 111, 114, 100, 115, 32, 118, 97, 108, 117, 101]⟩
abbrev zs_refused : Str := ⟨#[114, 101, 102, 117, 115, 101, 100]⟩
abbrev zs_remove : Str := ⟨#[114, 101, 109, 111, 118, 101]⟩
abbrev zs_rest : Str := ⟨#[114, 101, 115, 116]⟩
abbrev zs_result : Str := ⟨#[114, 101, 115, 117, 108, 116]⟩
abbrev zs_results_value : Str := ⟨#[114, 101, 115, 117, 108, 116, 115, 32, 118, 97, 108, 117, 101]⟩
abbrev zs_ring : Str := ⟨#[114, 105, 110, 103]⟩
abbrev zs_row : Str := ⟨#[114, 111, 119]⟩
abbrev zs_rows : Str := ⟨#[114, 111, 119, 115]⟩
abbrev zs_some_pages_were_not_read : Str := ⟨#[115, 111, 109, 101, 32, 112, 97, 103, 101, 115, 32, 119, 101, 114, 101, 32, 110, 111, 116, 32, 114, 101, 97, 100]⟩
abbrev zs_stale : Str := ⟨#[115, 116, 97, 108, 101]⟩
abbrev zs_states : Str := ⟨#[115, 116, 97, 116, 101, 115]⟩
abbrev zs_stop : Str := ⟨#[115, 116, 111, 112]⟩
abbrev zs_story_value : Str := ⟨#[115, 116, 111, 114, 121, 32, 118, 97, 108, 117, 101]⟩
abbrev zs_sum : Str := ⟨#[115, 117, 109]⟩
abbrev zs_take : Str := ⟨#[116, 97, 107, 101]⟩
abbrev zs_text : Str := ⟨#[116, 101, 120, 116]⟩
abbrev zs_the_page_is_not_held : Str := ⟨#[116, 104, 101, 32, 112, 97, 103, 101, 32, 105, 115, 32, 110, 111, 116, 32, 104, 101, 108, 100]⟩
abbrev zs_too_many : Str := ⟨#[116, 111, 111, 32, 109, 97, 110, 121]⟩
abbrev zs_tree : Str := ⟨#[116, 114, 101, 101]⟩
abbrev zs_undone : Str := ⟨#[117, 110, 100, 111, 110, 101]⟩
abbrev zs_value : Str := ⟨#[118, 97, 108, 117, 101]⟩
abbrev zs_vault : Str := ⟨#[118, 97, 117, 108, 116]⟩
abbrev zs_waiting : Str := ⟨#[119, 97, 105, 116, 105, 110, 103]⟩
abbrev zs_waits : Str := ⟨#[119, 97, 105, 116, 115]⟩
abbrev zs_wanted : Str := ⟨#[119, 97, 110, 116, 101, 100]⟩
abbrev zs_weave_value : Str := ⟨#[119, 101, 97, 118, 101, 32, 118, 97, 108, 117, 101]⟩
abbrev zs_went : Str := ⟨#[119, 101, 110, 116]⟩
abbrev zs_write : Str := ⟨#[119, 114, 105, 116, 101]⟩
theorem ok_zs_Get : PyData.strOk zs_Get = true := by decide +kernel
theorem ok_zs_Part : PyData.strOk zs_Part = true := by decide +kernel
theorem ok_zs_True : PyData.strOk zs_True = true := by decide +kernel
theorem ok_zs_a : PyData.strOk zs_a = true := by decide +kernel
theorem ok_zs_a_page_is_wanted_still : PyData.strOk zs_a_page_is_wanted_still = true := by decide +kernel
theorem ok_zs_abort : PyData.strOk zs_abort = true := by decide +kernel
theorem ok_zs_aborted : PyData.strOk zs_aborted = true := by decide +kernel
theorem ok_zs_add : PyData.strOk zs_add = true := by decide +kernel
theorem ok_zs_again : PyData.strOk zs_again = true := by decide +kernel
theorem ok_zs_all : PyData.strOk zs_all = true := by decide +kernel
theorem ok_zs_ask : PyData.strOk zs_ask = true := by decide +kernel
theorem ok_zs_bad : PyData.strOk zs_bad = true := by decide +kernel
theorem ok_zs_begin : PyData.strOk zs_begin = true := by decide +kernel
theorem ok_zs_change : PyData.strOk zs_change = true := by decide +kernel
theorem ok_zs_close : PyData.strOk zs_close = true := by decide +kernel
theorem ok_zs_commit : PyData.strOk zs_commit = true := by decide +kernel
theorem ok_zs_commits : PyData.strOk zs_commits = true := by decide +kernel
theorem ok_zs_committed : PyData.strOk zs_committed = true := by decide +kernel
theorem ok_zs_copy : PyData.strOk zs_copy = true := by decide +kernel
theorem ok_zs_count : PyData.strOk zs_count = true := by decide +kernel
theorem ok_zs_deeds : PyData.strOk zs_deeds = true := by decide +kernel
theorem ok_zs_disk : PyData.strOk zs_disk = true := by decide +kernel
theorem ok_zs_done : PyData.strOk zs_done = true := by decide +kernel
theorem ok_zs_durable : PyData.strOk zs_durable = true := by decide +kernel
theorem ok_zs_end : PyData.strOk zs_end = true := by decide +kernel
theorem ok_zs_entries_were_forgotten : PyData.strOk zs_entries_were_forgotten = true := by decide +kernel
theorem ok_zs_entry : PyData.strOk zs_entry = true := by decide +kernel
theorem ok_zs_events : PyData.strOk zs_events = true := by decide +kernel
theorem ok_zs_fallen : PyData.strOk zs_fallen = true := by decide +kernel
theorem ok_zs_firsts : PyData.strOk zs_firsts = true := by decide +kernel
theorem ok_zs_force : PyData.strOk zs_force = true := by decide +kernel
theorem ok_zs_g : PyData.strOk zs_g = true := by decide +kernel
theorem ok_zs_get : PyData.strOk zs_get = true := by decide +kernel
theorem ok_zs_go : PyData.strOk zs_go = true := by decide +kernel
theorem ok_zs_going : PyData.strOk zs_going = true := by decide +kernel
theorem ok_zs_gone : PyData.strOk zs_gone = true := by decide +kernel
theorem ok_zs_held : PyData.strOk zs_held = true := by decide +kernel
theorem ok_zs_high : PyData.strOk zs_high = true := by decide +kernel
theorem ok_zs_inner : PyData.strOk zs_inner = true := by decide +kernel
theorem ok_zs_is : PyData.strOk zs_is = true := by decide +kernel
theorem ok_zs_it_does_not_wait : PyData.strOk zs_it_does_not_wait = true := by decide +kernel
theorem ok_zs_items : PyData.strOk zs_items = true := by decide +kernel
theorem ok_zs_kept : PyData.strOk zs_kept = true := by decide +kernel
theorem ok_zs_key : PyData.strOk zs_key = true := by decide +kernel
theorem ok_zs_known : PyData.strOk zs_known = true := by decide +kernel
theorem ok_zs_leaf : PyData.strOk zs_leaf = true := by decide +kernel
theorem ok_zs_left : PyData.strOk zs_left = true := by decide +kernel
theorem ok_zs_line : PyData.strOk zs_line = true := by decide +kernel
theorem ok_zs_log : PyData.strOk zs_log = true := by decide +kernel
theorem ok_zs_lost : PyData.strOk zs_lost = true := by decide +kernel
theorem ok_zs_low : PyData.strOk zs_low = true := by decide +kernel
theorem ok_zs_many : PyData.strOk zs_many = true := by decide +kernel
theorem ok_zs_mark : PyData.strOk zs_mark = true := by decide +kernel
theorem ok_zs_merge : PyData.strOk zs_merge = true := by decide +kernel
theorem ok_zs_merged : PyData.strOk zs_merged = true := by decide +kernel
theorem ok_zs_nest : PyData.strOk zs_nest = true := by decide +kernel
theorem ok_zs_nest_value : PyData.strOk zs_nest_value = true := by decide +kernel
theorem ok_zs_no_page_is_wanted : PyData.strOk zs_no_page_is_wanted = true := by decide +kernel
theorem ok_zs_none : PyData.strOk zs_none = true := by decide +kernel
theorem ok_zs_not : PyData.strOk zs_not = true := by decide +kernel
theorem ok_zs_not_a_copy : PyData.strOk zs_not_a_copy = true := by decide +kernel
theorem ok_zs_not_a_disk : PyData.strOk zs_not_a_disk = true := by decide +kernel
theorem ok_zs_not_a_key : PyData.strOk zs_not_a_key = true := by decide +kernel
theorem ok_zs_not_a_log_of_the_tree : PyData.strOk zs_not_a_log_of_the_tree = true := by decide +kernel
theorem ok_zs_not_a_mark : PyData.strOk zs_not_a_mark = true := by decide +kernel
theorem ok_zs_not_a_nest : PyData.strOk zs_not_a_nest = true := by decide +kernel
theorem ok_zs_not_a_number_of_pages : PyData.strOk zs_not_a_number_of_pages = true := by decide +kernel
theorem ok_zs_not_a_number_of_places : PyData.strOk zs_not_a_number_of_places = true := by decide +kernel
theorem ok_zs_not_a_number_of_steps : PyData.strOk zs_not_a_number_of_steps = true := by decide +kernel
theorem ok_zs_not_a_page : PyData.strOk zs_not_a_page = true := by decide +kernel
theorem ok_zs_not_a_pool : PyData.strOk zs_not_a_pool = true := by decide +kernel
theorem ok_zs_not_a_rest_of_a_log : PyData.strOk zs_not_a_rest_of_a_log = true := by decide +kernel
theorem ok_zs_not_a_row_of_nests : PyData.strOk zs_not_a_row_of_nests = true := by decide +kernel
theorem ok_zs_not_a_story : PyData.strOk zs_not_a_story = true := by decide +kernel
theorem ok_zs_not_a_text : PyData.strOk zs_not_a_text = true := by decide +kernel
theorem ok_zs_not_a_tree : PyData.strOk zs_not_a_tree = true := by decide +kernel
theorem ok_zs_not_a_tuple_of_nests : PyData.strOk zs_not_a_tuple_of_nests = true := by decide +kernel
theorem ok_zs_not_a_weave : PyData.strOk zs_not_a_weave = true := by decide +kernel
theorem ok_zs_not_an_operation : PyData.strOk zs_not_an_operation = true := by decide +kernel
theorem ok_zs_not_open : PyData.strOk zs_not_open = true := by decide +kernel
theorem ok_zs_not_ready : PyData.strOk zs_not_ready = true := by decide +kernel
theorem ok_zs_not_records : PyData.strOk zs_not_records = true := by decide +kernel
theorem ok_zs_not_the_number_of_a_page : PyData.strOk zs_not_the_number_of_a_page = true := by decide +kernel
theorem ok_zs_number : PyData.strOk zs_number = true := by decide +kernel
theorem ok_zs_open : PyData.strOk zs_open = true := by decide +kernel
theorem ok_zs_operation : PyData.strOk zs_operation = true := by decide +kernel
theorem ok_zs_order : PyData.strOk zs_order = true := by decide +kernel
theorem ok_zs_order_value : PyData.strOk zs_order_value = true := by decide +kernel
theorem ok_zs_other : PyData.strOk zs_other = true := by decide +kernel
theorem ok_zs_outer : PyData.strOk zs_outer = true := by decide +kernel
theorem ok_zs_page : PyData.strOk zs_page = true := by decide +kernel
theorem ok_zs_pages : PyData.strOk zs_pages = true := by decide +kernel
theorem ok_zs_parents : PyData.strOk zs_parents = true := by decide +kernel
theorem ok_zs_part : PyData.strOk zs_part = true := by decide +kernel
theorem ok_zs_places : PyData.strOk zs_places = true := by decide +kernel
theorem ok_zs_pool : PyData.strOk zs_pool = true := by decide +kernel
theorem ok_zs_put : PyData.strOk zs_put = true := by decide +kernel
theorem ok_zs_read : PyData.strOk zs_read = true := by decide +kernel
theorem ok_zs_ready : PyData.strOk zs_ready = true := by decide +kernel
theorem ok_zs_records : PyData.strOk zs_records = true := by decide +kernel
theorem ok_zs_records_value : PyData.strOk zs_records_value = true := by decide +kernel
theorem ok_zs_refused : PyData.strOk zs_refused = true := by decide +kernel
theorem ok_zs_remove : PyData.strOk zs_remove = true := by decide +kernel
theorem ok_zs_rest : PyData.strOk zs_rest = true := by decide +kernel
theorem ok_zs_result : PyData.strOk zs_result = true := by decide +kernel
theorem ok_zs_results_value : PyData.strOk zs_results_value = true := by decide +kernel
theorem ok_zs_ring : PyData.strOk zs_ring = true := by decide +kernel
theorem ok_zs_row : PyData.strOk zs_row = true := by decide +kernel
theorem ok_zs_rows : PyData.strOk zs_rows = true := by decide +kernel
theorem ok_zs_some_pages_were_not_read : PyData.strOk zs_some_pages_were_not_read = true := by decide +kernel
theorem ok_zs_stale : PyData.strOk zs_stale = true := by decide +kernel
theorem ok_zs_states : PyData.strOk zs_states = true := by decide +kernel
theorem ok_zs_stop : PyData.strOk zs_stop = true := by decide +kernel
theorem ok_zs_story_value : PyData.strOk zs_story_value = true := by decide +kernel
theorem ok_zs_sum : PyData.strOk zs_sum = true := by decide +kernel
theorem ok_zs_take : PyData.strOk zs_take = true := by decide +kernel
theorem ok_zs_text : PyData.strOk zs_text = true := by decide +kernel
theorem ok_zs_the_page_is_not_held : PyData.strOk zs_the_page_is_not_held = true := by decide +kernel
theorem ok_zs_too_many : PyData.strOk zs_too_many = true := by decide +kernel
theorem ok_zs_tree : PyData.strOk zs_tree = true := by decide +kernel
theorem ok_zs_undone : PyData.strOk zs_undone = true := by decide +kernel
theorem ok_zs_value : PyData.strOk zs_value = true := by decide +kernel
theorem ok_zs_vault : PyData.strOk zs_vault = true := by decide +kernel
theorem ok_zs_waiting : PyData.strOk zs_waiting = true := by decide +kernel
theorem ok_zs_waits : PyData.strOk zs_waits = true := by decide +kernel
theorem ok_zs_wanted : PyData.strOk zs_wanted = true := by decide +kernel
theorem ok_zs_weave_value : PyData.strOk zs_weave_value = true := by decide +kernel
theorem ok_zs_went : PyData.strOk zs_went = true := by decide +kernel
theorem ok_zs_write : PyData.strOk zs_write = true := by decide +kernel
end NV

set_option Elab.async false
set_option linter.all false
set_option maxRecDepth 100000
set_option maxHeartbeats 1000000
/-! NvSym: the evaluator on values that are not known whole. -/
namespace NV
open PySem
theorem call_s {T : Ft} {n f : Nat} {fd : Fd} (h : T.fns[f]? = some fd) (ds : List D) (m : Mem) (hm : hasN T.lmk f = false := by rfl) : (callL T (n + 1)).1 f ds m = runFn (ctOf T (callL T n).1 (fun _ _ _ => .stuck) fun _ => .stuck) fd ds m := by
  show (match T.fns[f]? with
    | some fd => runFn (ctOf T (callL T n).1 (lamF T (callL T n).2 f) fun _ => .stuck) fd ds m
    | none => .stuck) = _
  rw [h]
  unfold lamF
  rw [hm]
  rfl
/-- a maker of lambdas -/
theorem call_sm {T : Ft} {n f : Nat} {fd : Fd} (h : T.fns[f]? = some fd) (ds : List D) (m : Mem) (hm : hasN T.lmk f = true := by rfl) : (callL T (n + 1)).1 f ds m = runFn (ctOf T (callL T n).1 (callL T n).2 fun _ => .stuck) fd ds m := by
  show (match T.fns[f]? with
    | some fd => runFn (ctOf T (callL T n).1 (lamF T (callL T n).2 f) fun _ => .stuck) fd ds m
    | none => .stuck) = _
  rw [h]
  unfold lamF
  rw [hm]
/-- a taker of a lambda -/
theorem call_sl {T : Ft} {n f : Nat} {fd : Fd} (h : T.fns[f]? = some fd) (th : Mem → Rs D) (m : Mem) (hm : hasN T.ltk f = true := by rfl) : (callL T (n + 1)).2 f th m = runFn (ctOf T (callL T n).1 (fun _ _ _ => .stuck) th) fd [.thk] m := by
  show (match hasN T.ltk f with
    | true => (match T.fns[f]? with
      | some fd => runFn (ctOf T (callL T n).1 noLc th) fd [.thk] m
      | none => .stuck)
    | false => .stuck) = _
  rw [hm, h]
  rfl
theorem eqW_self : ∀ w : List (Nat × Nat), eqW w w = true
  | [] => rfl
  | (a, b) :: r => by simp [eqW, eqW_self r]
theorem newW_self (j : Nat) (w : List (Nat × Nat)) : newW j w w = true := by
  unfold newW
  rw [Nat.sub_self, List.drop_zero, List.take_zero, eqW_self]
  rfl
theorem newW_app (j : Nat) (u w : List (Nat × Nat)) (h : ∀ p ∈ u, j ≤ p.1) : newW j w (u ++ w) = true := by
  unfold newW
  have e : (u ++ w).length - w.length = u.length := by rw [List.length_append]; omega
  rw [e, List.drop_left, List.take_left, eqW_self, Bool.true_and, List.all_eq_true]
  exact fun p hp => Nat.ble_eq.mpr (h p hp)
/-- new things alone are let go -/
theorem cln_app (os os' : List Ob) (u w : List (Nat × Nat)) (h : ∀ p ∈ u, os.length ≤ p.1) : cln ⟨os, w⟩ ⟨os ++ os', u ++ w⟩ = ⟨os, w⟩ := by
  unfold cln Mem.take Mem.len
  rw [newW_app _ _ _ h]
  simp
theorem cln_self (m : Mem) : cln m m = m := by
  have := cln_app m.objs [] [] m.wr (fun _ h => by cases h)
  simpa using this
theorem cln_push (m : Mem) (o : Ob) : cln m (m.push o) = m := cln_app m.objs [o] [] m.wr (fun _ h => by cases h)
theorem cln_push2 (m : Mem) (o p : Ob) : cln m ((m.push o).push p) = m := by
  have := cln_app m.objs [o, p] [] m.wr (fun _ h => by cases h)
  simpa [Mem.push] using this
theorem cln_push3 (m : Mem) (o p q : Ob) : cln m (((m.push o).push p).push q) = m := by
  have := cln_app m.objs [o, p, q] [] m.wr (fun _ h => by cases h)
  simpa [Mem.push] using this
theorem nl_non : D.nl .non = true := rfl
theorem nl_bl (b : Bool) : D.nl (.bl b) = true := rfl
theorem nl_int (i : Int) : D.nl (.int i) = true := rfl
theorem nl_str (i : Str) : D.nl (.str i) = true := rfl
theorem nl_tup (xs : List D) : D.nl (.tup xs) = D.nlL xs := rfl
theorem nl_loc (k : Nat) : D.nl (.loc k) = false := rfl
theorem nlL_nil : D.nlL [] = true := rfl
theorem nlL_cons (x : D) (xs : List D) : D.nlL (x :: xs) = (x.nl && D.nlL xs) := rfl
theorem len_push' (m : Mem) (o : Ob) : (m.push o).len = m.len + 1 := len_push
theorem get_push' (m : Mem) (o : Ob) (k : Nat) : (m.push o).get k = if k = m.len then some o else m.get k := get_push
theorem obnl_lst (xs : List D) : Ob.nl (.lst xs) = D.nlL xs := rfl
theorem gl_ct (T : Ft) (a : Nat → List D → Mem → Rs D) (b : Nat → (Mem → Rs D) → Mem → Rs D) (c : Mem → Rs D) (k : Nat) : (ctOf T a b c).gl k = T.gl.getD k .thk := rfl
theorem call_ct (T : Ft) (a : Nat → List D → Mem → Rs D) (b : Nat → (Mem → Rs D) → Mem → Rs D) (c : Mem → Rs D) : (ctOf T a b c).call = a := rfl
theorem fu_ct (T : Ft) (a : Nat → List D → Mem → Rs D) (b : Nat → (Mem → Rs D) → Mem → Rs D) (c : Mem → Rs D) : (ctOf T a b c).fu = T.fu := rfl
/-! ends of a def -/
theorem end_ret {m m' : Mem} {d : D} (h : d.nl = true) : endR m (.ret d m') = .ok d (cln m m') := by
  show clean m d m' = _
  unfold clean
  rw [h]
theorem end_bl (m m' : Mem) (b : Bool) : endR m (.ret (.bl b) m') = .ok (.bl b) (cln m m') := rfl
theorem end_int (m m' : Mem) (b : Int) : endR m (.ret (.int b) m') = .ok (.int b) (cln m m') := rfl
theorem end_str (m m' : Mem) (b : Str) : endR m (.ret (.str b) m') = .ok (.str b) (cln m m') := rfl
theorem end_non (m m' : Mem) : endR m (.ret .non m') = .ok .non (cln m m') := rfl
theorem end_tup (m m' : Mem) (xs : List D) (h : D.nlL xs = true) : endR m (.ret (.tup xs) m') = .ok (.tup xs) (cln m m') := end_ret h
theorem clean_bl (m m' : Mem) (b : Bool) : clean m (.bl b) m' = .ok (.bl b) (cln m m') := rfl
theorem clean_int (m m' : Mem) (b : Int) : clean m (.int b) m' = .ok (.int b) (cln m m') := rfl
theorem clean_str (m m' : Mem) (b : Str) : clean m (.str b) m' = .ok (.str b) (cln m m') := rfl
theorem clean_non (m m' : Mem) : clean m .non m' = .ok .non (cln m m') := rfl
theorem end_next (m m' : Mem) (s : Sl) : endR m (.next s m') = .ok .non (cln m m') := rfl
theorem end_exc (m m' : Mem) (s : Sl) (c : Nat) : endR m (.exc c [] s m') = .exc c [] (cln m m') := rfl
theorem clean_nl {m m1 : Mem} {d : D} (h : d.nl = true) : clean m d m1 = .ok d (cln m m1) := by
  unfold clean
  rw [h]
theorem clean_tup (m m' : Mem) (xs : List D) (h : D.nlL xs = true) : clean m (.tup xs) m' = .ok (.tup xs) (cln m m') := clean_nl h
theorem get_pushed (m : Mem) (o : Ob) : (m.push o).get m.len = some o := by
  unfold Mem.push Mem.get Mem.len
  simp
theorem clean_new {m : Mem} {o : Ob} (h : o.nl = true) : clean m (.loc m.len) (m.push o) = .ok (.loc m.len) (m.push o) := by
  unfold clean
  rw [nl_loc]
  simp only [get_pushed]
  split
  · congr 1
    unfold Mem.push Mem.take Mem.len
    simp
  · rfl
theorem end_new {m : Mem} {o : Ob} (h : o.nl = true) : endR m (.ret (.loc m.len) (m.push o)) = .ok (.loc m.len) (m.push o) := clean_new h
/-! operations -/
theorem q_le (i j : Int) (m : Mem) : prim .le [.int i, .int j] m = .ok (.bl (decide (i ≤ j))) m := rfl
theorem q_lt (i j : Int) (m : Mem) : prim .lt [.int i, .int j] m = .ok (.bl (decide (i < j))) m := rfl
theorem q_gt (i j : Int) (m : Mem) : prim .gt [.int i, .int j] m = .ok (.bl (decide (j < i))) m := rfl
theorem q_ge (i j : Int) (m : Mem) : prim .ge [.int i, .int j] m = .ok (.bl (decide (j ≤ i))) m := rfl
theorem q_add (i j : Int) (m : Mem) : prim .add [.int i, .int j] m = .ok (.int (i + j)) m := rfl
theorem q_sub (i j : Int) (m : Mem) : prim .sub [.int i, .int j] m = .ok (.int (i - j)) m := rfl
theorem q_neg (i : Int) (m : Mem) : prim .neg [.int i] m = .ok (.int (-i)) m := rfl
theorem q_abs (i : Int) (m : Mem) : prim .abs [.int i] m = .ok (.int (if i < 0 then -i else i)) m := rfl
theorem q_int (i : Int) (m : Mem) : prim .int [.int i] m = .ok (.int i) m := rfl
theorem q_bool (b : Bool) (m : Mem) : prim .bool [.bl b] m = .ok (.bl b) m := rfl
theorem q_mod (i j : Int) (m : Mem) (h : 0 < j) : prim .mod [.int i, .int j] m = .ok (.int (i % j)) m := by
  show okIf (decide (0 < j)) _ m = _
  rw [decide_eq_true h]
  rfl
theorem q_fdiv (i j : Int) (m : Mem) (h : 0 < j ∧ j < 1073741824) : prim .fdiv [.int i, .int j] m = .ok (.int (i / j)) m := by
  show okIf (decide (0 < j ∧ j < 1073741824)) _ m = _
  rw [decide_eq_true h]
  rfl
theorem q_mul (i j : Int) (m : Mem) (h : (-(2 ^ 64) < i ∧ i < 2 ^ 64) ∨ (-(2 ^ 64) < j ∧ j < 2 ^ 64)) : prim .mul [.int i, .int j] m = .ok (.int (i * j)) m := by
  show okIf (small64 i || small64 j) _ m = _
  have e : (small64 i || small64 j) = true := by
    unfold small64
    simp only [Bool.or_eq_true, decide_eq_true_eq]
    exact h
  rw [e]
  rfl
theorem q_eqI (i j : Int) (m : Mem) : prim .eq [.int i, .int j] m = .ok (.bl (decide (i = j))) m := by
  show okB (eqD m (.int i) (.int j)) m false = _
  have e : eqD m (.int i) (.int j) = some (decide (i = j)) := by
    unfold eqD
    simp only [toPy, PyData.eqv]
    congr 1
  rw [e]
  cases decide (i = j) <;> rfl
theorem q_neI (i j : Int) (m : Mem) : prim .ne [.int i, .int j] m = .ok (.bl (!decide (i = j))) m := by
  show okB (eqD m (.int i) (.int j)) m true = _
  have e : eqD m (.int i) (.int j) = some (decide (i = j)) := by
    unfold eqD
    simp only [toPy, PyData.eqv]
    congr 1
  rw [e]
  cases decide (i = j) <;> rfl
theorem q_eqS (a b : Str) (m : Mem) : prim .eq [.str a, .str b] m = .ok (.bl (decide (a = b))) m := rfl
theorem q_neS (a b : Str) (m : Mem) : prim .ne [.str a, .str b] m = .ok (.bl (!decide (a = b))) m := rfl
theorem q_inS2 (a b c : Str) (m : Mem) (ha : PyData.strOk a = true) (hb : PyData.strOk b = true) (hc : PyData.strOk c = true) : prim .isIn [.str a, .tup [.str b, .str c]] m = .ok (.bl (decide (b = a) || decide (c = a))) m := by
  show okB (inD m (.str a) (.tup [.str b, .str c])) m false = _
  have e : inD m (.str a) (.tup [.str b, .str c]) = some (decide (b = a) || decide (c = a)) := by
    unfold inD
    simp only [toPy, mapO, ha, hb, hc, if_true, List.any_cons, List.any_nil, PyData.eqv, Bool.or_false]
    rfl
  rw [e]
  cases (decide (b = a) || decide (c = a)) <;> rfl
theorem q_isN (a : D) (m : Mem) : prim .isN [a, .non] m = (match a with
    | .non => .ok (.bl true) m
    | .thk => .stuck
    | .er _ _ => .stuck
    | _ => .ok (.bl false) m) := rfl
theorem q_notN (a : D) (m : Mem) : prim .notN [a, .non] m = (match a with
    | .non => .ok (.bl false) m
    | .thk => .stuck
    | .er _ _ => .stuck
    | _ => .ok (.bl true) m) := rfl
theorem q_idxT (xs : List D) (i : Int) (m : Mem) : prim .idx [.tup xs, .int i] m = (match atD xs i with
  | some x => .ok x m
  | none => .stuck) := rfl
theorem q_lenT (xs : List D) (m : Mem) : prim .len [.tup xs] m = .ok (.int xs.length) m := rfl
theorem q_isInt (a : D) (m : Mem) : prim .isInt [a] m = p_is tInt [a] m := rfl
theorem q_isBool (a : D) (m : Mem) : prim .isBool [a] m = p_is tBool [a] m := rfl
theorem q_isTuple (a : D) (m : Mem) : prim .isTuple [a] m = p_is tTuple [a] m := rfl
theorem q_isStr (a : D) (m : Mem) : prim .isStr [a] m = p_is tStr [a] m := rfl
/-! comprehensions over what is there -/
theorem lcF_nil (g : D → Mem → Rs (Option D)) (m : Mem) : lcF g [] m = .ok [] m := rfl
theorem lcF_cons {g : D → Mem → Rs (Option D)} {x : D} {xs : List D} {m m1 : Mem} {o : Option D} (h : g x m = .ok o m1) : lcF g (x :: xs) m = (lcF g xs m1).bind fun ds m2 => .ok (consO o ds) m2 := by
  simp only [lcF, h, Rs.bind]
  cases o <;> rfl
/-- turns that leave the memory -/
theorem lcF_pure {g : D → Mem → Rs (Option D)} {h : D → Option D} {m : Mem} : ∀ {xs : List D}, (∀ x ∈ xs, g x m = .ok (h x) m) → lcF g xs m = .ok (xs.filterMap h) m
  | [], _ => rfl
  | x :: xs, k => by
    rw [lcF_cons (k x (List.mem_cons_self ..)), lcF_pure (fun y hy => k y (List.mem_cons_of_mem _ hy))]
    simp only [Rs.bind, List.filterMap_cons]
    cases h x <;> rfl
theorem newL_ok {m : Mem} {xs : List D} (h : xs.length ≤ 1000) : newL m xs = .ok (.loc m.len) (m.push (.lst xs)) := if_pos (sz_small h)
theorem q_idxL {m : Mem} {k : Nat} {xs : List D} (i : Int) (h : m.get k = some (.lst xs)) : prim .idx [.loc k, .int i] m = (match atD xs i with
  | some x => .ok x m
  | none => .stuck) := by
  show p_idx [.loc k, .int i] m = _
  simp only [p_idx, h]
  all_goals (cases atD xs i <;> rfl)
theorem at0 {α : Type} (x : α) (xs : List α) : atD (x :: xs) 0 = some x := by
  unfold atD ixI
  simp
theorem at1 {α : Type} (x y : α) (xs : List α) : atD (x :: y :: xs) 1 = some y := by
  have e : ixI (x :: y :: xs).length 1 = some 1 := by
    unfold ixI
    simp only [List.length_cons]
    rw [if_pos (by decide), if_pos (by omega)]
    rfl
  unfold atD
  rw [e]
  rfl
theorem at2 {α : Type} (x y z : α) (xs : List α) : atD (x :: y :: z :: xs) 2 = some z := by
  have e : ixI (x :: y :: z :: xs).length 2 = some 2 := by
    unfold ixI
    simp only [List.length_cons]
    rw [if_pos (by decide), if_pos (by omega)]
    rfl
  unfold atD
  rw [e]
  rfl
theorem q_ix0 (x : D) (xs : List D) (m : Mem) : prim .idx [.tup (x :: xs), .int 0] m = .ok x m := by rw [q_idxT, at0]
theorem q_ix1 (x y : D) (xs : List D) (m : Mem) : prim .idx [.tup (x :: y :: xs), .int 1] m = .ok y m := by rw [q_idxT, at1]
theorem q_ix2 (x y z : D) (xs : List D) (m : Mem) : prim .idx [.tup (x :: y :: z :: xs), .int 2] m = .ok z m := by rw [q_idxT, at2]
theorem q_lx0 {m : Mem} {k : Nat} {x : D} {xs : List D} (h : m.get k = some (.lst (x :: xs))) : prim .idx [.loc k, .int 0] m = .ok x m := by rw [q_idxL 0 h, at0]
theorem q_lx1 {m : Mem} {k : Nat} {x y : D} {xs : List D} (h : m.get k = some (.lst (x :: y :: xs))) : prim .idx [.loc k, .int 1] m = .ok y m := by rw [q_idxL 1 h, at1]
/-! ### what is rolled -/
/-- the cup's two numbers -/
structure Cup where
  a : Int
  b : Int
  ha : 0 ≤ a
  hb : 0 ≤ b ∧ b < 4294967296
def Cup.b2 (c : Cup) : Int := (c.b * 31121 + 8069) % 2147483353
theorem Cup.b2_ok (c : Cup) : 0 ≤ c.b2 ∧ c.b2 < 4294967296 := by
  unfold Cup.b2
  have h1 := Int.emod_nonneg (c.b * 31121 + 8069) (show (2147483353 : Int) ≠ 0 by decide)
  have h2 := Int.emod_lt_of_pos (c.b * 31121 + 8069) (show (0 : Int) < 2147483353 by decide)
  omega
def Cup.r (c : Cup) (k : Int) : Int := if 0 < c.a then c.a % k else (c.b2 * (c.b2 + 269) % 2147483587 / 859) % k
def Cup.nx (c : Cup) (k : Int) : Cup := if h : 0 < c.a ∧ 0 < k then ⟨c.a / k, c.b, Int.ediv_nonneg c.ha (Int.le_of_lt h.2), c.hb⟩ else ⟨c.a, c.b2, c.ha, c.b2_ok⟩
theorem Cup.r_ge (c : Cup) {k : Int} (h : 0 < k) : 0 ≤ c.r k := by
  unfold Cup.r
  split <;> exact Int.emod_nonneg _ (by omega)
theorem Cup.r_lt (c : Cup) {k : Int} (h : 0 < k) : c.r k < k := by
  unfold Cup.r
  split <;> exact Int.emod_lt_of_pos _ h
/-- a memory with the cup at its foot -/
def cm (c : Cup) (rs : List Ob) (e : List (Nat × Nat)) : Mem := ⟨.lst [.int c.a, .int c.b] :: rs, e⟩
theorem cm_get (c : Cup) (rs : List Ob) (e : List (Nat × Nat)) : (cm c rs e).get 0 = some (.lst [.int c.a, .int c.b]) := rfl
theorem cm_push (c : Cup) (rs : List Ob) (e : List (Nat × Nat)) (o : Ob) : (cm c rs e).push o = cm c (rs ++ [o]) e := rfl
theorem cm_len (c : Cup) (rs : List Ob) (e : List (Nat × Nat)) : (cm c rs e).len = rs.length + 1 := by simp [cm, Mem.len]
theorem cm_cln (c d : Cup) (rs : List Ob) (e : List (Nat × Nat)) : cln (cm c rs e) (cm d rs e) = cm d rs e := by
  unfold cln cm Mem.take Mem.len
  rw [newW_self]
  simp
theorem cm_cln1 (c d : Cup) (rs : List Ob) (o : Ob) (e : List (Nat × Nat)) : cln (cm c rs e) (cm d (rs ++ [o]) e) = cm d rs e := by
  unfold cln cm Mem.take Mem.len
  rw [newW_self]
  simp
theorem cm_cln2 (c d : Cup) (rs : List Ob) (o p : Ob) (e : List (Nat × Nat)) : cln (cm c rs e) (cm d (rs ++ [o] ++ [p]) e) = cm d rs e := by
  unfold cln cm Mem.take Mem.len
  rw [newW_self]
  simp
theorem cm_q0 (c : Cup) (rs : List Ob) (e : List (Nat × Nat)) : prim .idx [.loc 0, .int 0] (cm c rs e) = .ok (.int c.a) (cm c rs e) := q_lx0 (cm_get c rs e)
theorem cm_q1 (c : Cup) (rs : List Ob) (e : List (Nat × Nat)) : prim .idx [.loc 0, .int 1] (cm c rs e) = .ok (.int c.b) (cm c rs e) := q_lx1 (cm_get c rs e)
theorem cm_s0 (c : Cup) (rs : List Ob) (e : List (Nat × Nat)) (x : Int) (h : 0 ≤ x) : setIxD (cm c rs e) (.loc 0) (.int 0) (.int x) = some (cm ⟨x, c.b, h, c.hb⟩ rs e) := rfl
theorem cm_s1 (c : Cup) (rs : List Ob) (e : List (Nat × Nat)) (x : Int) (h : 0 ≤ x ∧ x < 4294967296) : setIxD (cm c rs e) (.loc 0) (.int 1) (.int x) = some (cm ⟨c.a, x, c.ha, h⟩ rs e) := rfl
theorem cm_getL (c : Cup) (rs : List Ob) (o : Ob) (e : List (Nat × Nat)) : (cm c (rs ++ [o]) e).get (rs.length + 1) = some o := by
  simp [cm, Mem.get]
theorem q_lenL {m : Mem} {k : Nat} {xs : List D} (h : m.get k = some (.lst xs)) : prim .len [.loc k] m = .ok (.int xs.length) m := by
  show p_len [.loc k] m = _
  simp only [p_len, h]
theorem at_in {xs : List D} {i : Int} (h1 : 0 ≤ i) (h2 : i < xs.length) : atD xs i = some (xs.getD i.toNat .non) := by
  have e : ixI xs.length i = some i.toNat := by
    unfold ixI
    rw [if_pos h1, if_pos h2]
  unfold atD
  rw [e]
  have hl : i.toNat < xs.length := by omega
  show xs[i.toNat]? = _
  rw [List.getD_eq_getElem?_getD, List.getElem?_eq_getElem hl]
  rfl
/-- one of several things, as the cup rolls -/
def Cup.pick (c : Cup) (xs : List D) : D := xs.getD (c.r xs.length).toNat .non
theorem Cup.pick_mem (c : Cup) {xs : List D} (h : 0 < xs.length) : c.pick xs ∈ xs := by
  unfold Cup.pick
  have h1 := c.r_lt (k := (xs.length : Int)) (by omega)
  have h2 := c.r_ge (k := (xs.length : Int)) (by omega)
  have hl : (c.r xs.length).toNat < xs.length := by omega
  rw [List.getD_eq_getElem?_getD, List.getElem?_eq_getElem hl]
  exact List.getElem_mem hl
theorem Cup.pick_int (c : Cup) {xs : List D} {p : Int → Prop} (h : 0 < xs.length) (hx : ∀ d ∈ xs, ∃ v, d = .int v ∧ p v) : ∃ v, c.pick xs = .int v ∧ p v := hx _ (c.pick_mem h)
theorem nlL_mem : ∀ {xs : List D}, D.nlL xs = true → ∀ d ∈ xs, d.nl = true
  | x :: xs, h, d, hd => by
    rw [nlL_cons, Bool.and_eq_true] at h
    rcases List.mem_cons.mp hd with e | hd
    · rw [e]; exact h.1
    · exact nlL_mem h.2 d hd
/-! ### dicts of ints -/
def dk (l : List (Int × Int)) : List (D × D) := l.map fun p => (.int p.1, .int p.2)
def putI : List (Int × Int) → Int → Int → List (Int × Int)
  | [], k, v => [(k, v)]
  | (a, b) :: r, k, v => if a = k then (k, v) :: r else (a, b) :: putI r k v
theorem dPut_dk (k v : Int) : ∀ l : List (Int × Int), dPut (dk l) (.int k) (.int v) = dk (putI l k v)
  | [] => rfl
  | (a, b) :: r => by
    have ih := dPut_dk k v r
    simp only [dk, List.map_cons, dPut, keyEq, putI] at ih ⊢
    by_cases h : a = k
    · simp [h]
    · simp [h, ih]
theorem putI_len (k v : Int) : ∀ l : List (Int × Int), (putI l k v).length ≤ l.length + 1
  | [] => by simp [putI]
  | (a, b) :: r => by
    unfold putI
    split
    · simp
    · simp only [List.length_cons]
      have := putI_len k v r
      omega
theorem putI_mem (k v : Int) : ∀ (l : List (Int × Int)) (p : Int × Int), p ∈ putI l k v → p = (k, v) ∨ p ∈ l
  | [], p, h => by simpa [putI] using h
  | (a, b) :: r, p, h => by
    unfold putI at h
    split at h
    · rcases List.mem_cons.mp h with e | h
      · exact .inl e
      · exact .inr (List.mem_cons_of_mem _ h)
    · rcases List.mem_cons.mp h with e | h
      · exact .inr (by rw [e]; exact List.mem_cons_self ..)
      · rcases putI_mem k v r p h with e | h
        · exact .inl e
        · exact .inr (List.mem_cons_of_mem _ h)
theorem putI_keys (k v : Int) : ∀ l : List (Int × Int), (l.map (·.1)).Nodup → ((putI l k v).map (·.1)).Nodup
  | [], _ => by simp [putI]
  | (a, b) :: r, h => by
    rw [List.map_cons, List.nodup_cons] at h
    unfold putI
    split
    · rename_i e
      rw [List.map_cons, List.nodup_cons]
      exact ⟨by rw [← e]; exact h.1, h.2⟩
    · rename_i e
      rw [List.map_cons, List.nodup_cons]
      refine ⟨fun z => ?_, putI_keys k v r h.2⟩
      obtain ⟨p, hp, ep⟩ := List.mem_map.mp z
      rcases putI_mem k v r p hp with e2 | h2
      · rw [e2] at ep
        exact e ep.symm
      · exact h.1 (List.mem_map.mpr ⟨p, h2, ep⟩)
theorem dk_len (l : List (Int × Int)) : (dk l).length = l.length := by simp [dk]
theorem dk_nl : ∀ l : List (Int × Int), nlKv (dk l) = true
  | [] => rfl
  | (a, b) :: r => by
    show (D.nl (.int a) && (D.nl (.int b) && nlKv (dk r))) = true
    rw [dk_nl r]
    rfl
theorem setAt (objs : List Ob) (o p : Ob) : (objs ++ [o]).set objs.length p = objs ++ [p] := by
  rw [List.set_append_right _ _ (Nat.le_refl _), Nat.sub_self]
  rfl
theorem cm_setD (c : Cup) (rs : List Ob) (e : List (Nat × Nat)) (l : List (Int × Int)) (k v : Int) (h : l.length < 1000) : setIxD (cm c (rs ++ [.dic (dk l)]) e) (.loc (rs.length + 1)) (.int k) (.int v) = some (cm c (rs ++ [.dic (dk (putI l k v))]) e) := by
  unfold setIxD
  simp only [cm_getL]
  have hz : decide ((dk l).length < PySem.sizeLine) = true := decide_eq_true (by rw [dk_len]; exact Nat.lt_of_lt_of_le h (by decide))
  simp only [keyD, hz, Bool.and_true, if_true, dPut_dk, nl_int]
  congr 1
  unfold Mem.put cm
  simp only [if_true, List.set_cons_succ, setAt]
/-- pairs as tuples -/
def pt (p : Int × Int) : D := .tup [.int p.1, .int p.2]
def recD (l : List (Int × Int)) : D := .tup (l.map pt)
theorem pt_nl : ∀ l : List (Int × Int), D.nlL (l.map pt) = true
  | [] => rfl
  | (a, b) :: r => by
    show (D.nl (pt (a, b)) && D.nlL (r.map pt)) = true
    rw [pt_nl r]
    rfl
theorem mapO_pairs : ∀ l : List (Int × Int), mapO pairOf (l.map pt) = some l
  | [] => rfl
  | (a, b) :: r => by
    simp only [List.map_cons, mapO, mapO_pairs r]
    rfl
theorem mapO_ints_none (p : Int × Int) (l : List (Int × Int)) : mapO intOf ((p :: l).map pt) = none := rfl
theorem q_sortP {m : Mem} {k : Nat} {l : List (Int × Int)} (h : m.get k = some (.lst (l.map pt))) (hz : l.length ≤ 1000) : prim .sorted [.loc k] m = .ok (.loc m.len) (m.push (.lst ((isort ltP l).map pt))) := by
  show p_sorted [.loc k] m = _
  have hk : keysOf m (.loc k) = none := by simp only [keysOf, h]
  simp only [p_sorted, hk, lstOf, h]
  have hl : (isort ltP l).length = l.length := (isort_perm l).length_eq
  cases l with
  | nil => exact newL_ok (by simp [isort])
  | cons p r =>
    rw [mapO_ints_none, mapO_pairs]
    exact newL_ok (by rw [List.length_map, hl]; exact hz)
theorem q_itemsD {m : Mem} {k : Nat} {l : List (Int × Int)} (h : m.get k = some (.dic (dk l))) (hz : l.length ≤ 1000) : prim .lstItems [.loc k] m = .ok (.loc m.len) (m.push (.lst (l.map pt))) := by
  show p_lstItems [.loc k] m = _
  simp only [p_lstItems, h]
  have e : ((dk l).map fun p => D.tup [p.1, p.2]) = l.map pt := by
    unfold dk
    rw [List.map_map]
    rfl
  rw [e]
  exact newL_ok (by rw [List.length_map]; exact hz)
theorem q_tupL {m : Mem} {k : Nat} {xs : List D} (h : m.get k = some (.lst xs)) : prim .tuple [.loc k] m = .ok (.tup xs) m := by
  show p_tuple [.loc k] m = _
  simp only [p_tuple, seqOf, h]
theorem push_get (m : Mem) (o : Ob) : (m.push o).get m.len = some o := get_pushed m o
theorem end_cmD (c d : Cup) (rs : List Ob) (e : List (Nat × Nat)) (l : List (Int × Int)) : endR (cm c rs e) (.ret (.loc (rs.length + 1)) (cm d (rs ++ [.dic (dk l)]) e)) = .ok (.loc (rs.length + 1)) (cm d (rs ++ [.dic (dk l)]) e) := by
  show clean (cm c rs e) (.loc (rs.length + 1)) (cm d (rs ++ [.dic (dk l)]) e) = _
  unfold clean
  rw [nl_loc]
  simp only [cm_getL]
  split
  · rw [cm_len]
    congr 1
    unfold cm Mem.take Mem.push
    simp
  · rfl
theorem q_px0 (m : Mem) (x : D) (xs : List D) : prim .idx [.loc m.len, .int 0] (m.push (.lst (x :: xs))) = .ok x (m.push (.lst (x :: xs))) := q_lx0 (push_get _ _)
theorem q_px1 (m : Mem) (x y : D) (xs : List D) : prim .idx [.loc m.len, .int 1] (m.push (.lst (x :: y :: xs))) = .ok y (m.push (.lst (x :: y :: xs))) := q_lx1 (push_get _ _)
theorem clean_pl (m : Mem) (xs : List D) (h : D.nlL xs = true) : clean m (.loc m.len) (m.push (.lst xs)) = .ok (.loc m.len) (m.push (.lst xs)) := clean_new h
theorem end_pl (m : Mem) (xs : List D) (h : D.nlL xs = true) : endR m (.ret (.loc m.len) (m.push (.lst xs))) = .ok (.loc m.len) (m.push (.lst xs)) := end_new h
/-! comprehensions over a tuple of a slot -/
theorem lc_seqT {C : Ct} {own : List Nat} {tg : TG} {i : Nat} {ts : List CT} {e : CE} {s : Sl} {m : Mem} {xs : List D} {h : D → Option D} (hs : getS s i = some (.tup xs)) (ht : ∀ x ∈ xs, turnE tg own s (evTs C ts) (evE C e) x m = .ok (h x) m) :
    evE C (.lc own tg .seq [.var i] ts e) s m = newL m (xs.filterMap h) := by
  show xLc C own tg .seq (xCons (xVar i) xNil) (evTs C ts) (evE C e) s m = _
  unfold xLc xCons xNil xVar
  simp only [hs, Rs.bind, itOf, itSeq, lcRun]
  rw [lcF_pure ht]
  rfl
theorem cut1 {α : Type} (xs : List α) : cutL xs (some 1) none = xs.drop 1 := by
  unfold cutL sIx
  simp only [show ¬ ((1 : Int) < 0) by decide, if_false]
  cases xs with
  | nil => simp
  | cons x xs =>
    have e : min (Int.toNat 1) (x :: xs).length = 1 := by
      rw [List.length_cons]
      show min 1 _ = 1
      omega
    rw [e, List.take_of_length_le]
    simp
theorem lc_zipT {C : Ct} {own : List Nat} {tg : TG} {i : Nat} {ts : List CT} {e : CE} {s : Sl} {m : Mem} {xs : List D} {h : D → Option D} (hs : getS s i = some (.tup xs)) (ht : ∀ x ∈ zipD xs (xs.drop 1), turnE tg own s (evTs C ts) (evE C e) x m = .ok (h x) m) :
    evE C (.lc own tg .zip [.var i, .sl (.var i) (.at (.int 1)) .non] ts e) s m = newL m ((zipD xs (xs.drop 1)).filterMap h) := by
  show xLc C own tg .zip (xCons (xVar i) (xCons (xSl (xVar i) (xAt (xC (.int 1))) xNoP) xNil)) (evTs C ts) (evE C e) s m = _
  unfold xLc xCons xNil xSl xAt xC xNoP xVar
  simp only [hs, Rs.bind, intR, sliceD, cut1, itOf, itZip, lcRun]
  rw [lcF_pure ht]
  rfl
theorem zipD_len : ∀ xs ys : List D, (zipD xs ys).length ≤ xs.length
  | [], _ => by simp [zipD]
  | _ :: _, [] => by simp [zipD]
  | x :: xs, y :: ys => by
    simp only [zipD, List.length_cons]
    have := zipD_len xs ys
    omega
theorem all_bl {α : Type} : ∀ xs : List α, mapO blOf (xs.map fun _ => D.bl true) = some (xs.map fun _ => true)
  | [] => rfl
  | x :: xs => by
    simp only [List.map_cons, mapO, all_bl xs, blOf]
theorem q_allT {α : Type} (m : Mem) (xs : List α) : prim .all [.loc m.len] (m.push (.lst (xs.map fun _ => D.bl true))) = .ok (.bl true) (m.push (.lst (xs.map fun _ => D.bl true))) := by
  show p_all [.loc m.len] (m.push (.lst (xs.map fun _ => D.bl true))) = _
  simp only [p_all, lstOf, push_get, all_bl]
  congr 2
  induction xs with
  | nil => rfl
  | cons x xs ih => simpa using ih
theorem cln_push4 (m : Mem) (o p q r : Ob) : cln m ((((m.push o).push p).push q).push r) = m := by
  unfold cln Mem.push Mem.take Mem.len
  rw [newW_self]
  simp
theorem get_push2 (m : Mem) (o p : Ob) : ((m.push o).push p).get m.len = some o := by
  unfold Mem.push Mem.get Mem.len
  simp
theorem q_addP (m : Mem) (xs ys : List D) : prim .add [.loc m.len, .loc (m.push (.lst xs)).len] ((m.push (.lst xs)).push (.lst ys)) = newL ((m.push (.lst xs)).push (.lst ys)) (xs ++ ys) := by
  show p_add [.loc m.len, .loc (m.push (.lst xs)).len] ((m.push (.lst xs)).push (.lst ys)) = _
  simp only [p_add, get_push2, push_get]
theorem q_sortN (m : Mem) (l : List (Int × Int)) (hz : l.length ≤ 1000) : prim .sorted [.loc m.len] (m.push (.lst (l.map pt))) = .ok (.loc (m.push (.lst (l.map pt))).len) ((m.push (.lst (l.map pt))).push (.lst ((isort ltP l).map pt))) := q_sortP (push_get _ _) hz
theorem q_tupN (m : Mem) (xs : List D) : prim .tuple [.loc m.len] (m.push (.lst xs)) = .ok (.tup xs) (m.push (.lst xs)) := q_tupL (push_get _ _)
theorem mapO_int : ∀ ns : List Int, mapO intOf (ns.map D.int) = some ns
  | [] => rfl
  | n :: r => by simp only [List.map_cons, mapO, mapO_int r, intOf]
theorem q_sumN (m : Mem) (ns : List Int) : prim .sum [.loc m.len] (m.push (.lst (ns.map D.int))) = .ok (.int ns.sum) (m.push (.lst (ns.map D.int))) := by
  show p_sum [.loc m.len] (m.push (.lst (ns.map D.int))) = _
  simp only [p_sum, lstOf, push_get, mapO_int]
theorem filt_pt (f : Int × Int → Bool) (h : D → Option D) (hh : ∀ p, h (pt p) = if f p then some (pt p) else none) : ∀ l : List (Int × Int), (l.map pt).filterMap h = (l.filter f).map pt
  | [] => rfl
  | p :: l => by
    rw [List.map_cons, List.filterMap_cons, hh, List.filter_cons]
    cases f p
    · simp [filt_pt f h hh l]
    · simp [filt_pt f h hh l]
theorem filt_v (f : Int × Int → Bool) (h : D → Option D) (hh : ∀ p, h (pt p) = if f p then some (.int p.2) else none) : ∀ l : List (Int × Int), (l.map pt).filterMap h = ((l.filter f).map (·.2)).map D.int
  | [] => rfl
  | p :: l => by
    rw [List.map_cons, List.filterMap_cons, hh, List.filter_cons]
    cases f p
    · simp [filt_v f h hh l]
    · simp [filt_v f h hh l]
/-! ### repr of trees of small ints -/
mutual
def pyD : D → PyData
  | .bl b => .bool b
  | .int i => .int i
  | .tup xs => .tuple (pyDs xs)
  | _ => .none
def pyDs : List D → List PyData
  | [] => []
  | x :: xs => pyD x :: pyDs xs
end
mutual
def smB : D → Bool
  | .non => true
  | .bl _ => true
  | .int i => decide (i.natAbs < 10 ^ 12)
  | .tup xs => smBs xs
  | _ => false
def smBs : List D → Bool
  | [] => true
  | x :: xs => smB x && smBs xs
end
mutual
def dpD : D → Nat
  | .tup xs => dpDs xs + 1
  | _ => 0
def dpDs : List D → Nat
  | [] => 0
  | x :: xs => max (dpD x) (dpDs xs)
end
mutual
def bkD : D → Nat
  | .tup xs => bkDs xs
  | _ => 0
def bkDs : List D → Nat
  | [] => 0
  | x :: xs => bkD x + 1 + bkDs xs
end
mutual
theorem toPy_sm (m : Mem) : ∀ (f : Nat) (d : D), smB d = true → dpD d < f → toPy f m d = some (pyD d)
  | 0, _, _, h => absurd h (Nat.not_lt_zero _)
  | f + 1, .non, _, _ => by simp only [toPy, pyD]
  | f + 1, .bl _, _, _ => by simp only [toPy, pyD]
  | f + 1, .int _, _, _ => by simp only [toPy, pyD]
  | f + 1, .tup xs, h, hd => by
    simp only [smB] at h
    simp only [dpD] at hd
    simp only [toPy, pyD, toPys_sm m f xs h (by omega)]
  | f + 1, .str _, h, _ => by simp [smB] at h
  | f + 1, .loc _, h, _ => by simp [smB] at h
  | f + 1, .fn _, h, _ => by simp [smB] at h
  | f + 1, .thk, h, _ => by simp [smB] at h
  | f + 1, .er _ _, h, _ => by simp [smB] at h
  | f + 1, .rol _, h, _ => by simp [smB] at h
theorem toPys_sm (m : Mem) : ∀ (f : Nat) (xs : List D), smBs xs = true → dpDs xs < f → mapO (toPy f m) xs = some (pyDs xs)
  | _, [], _, _ => by simp only [mapO, pyDs]
  | f, x :: xs, h, hd => by
    simp only [smBs, Bool.and_eq_true] at h
    simp only [dpDs] at hd
    simp only [mapO, pyDs, toPy_sm m f x h.1 (by omega), toPys_sm m f xs h.2 (by omega)]
end
mutual
theorem show_sm : ∀ d : D, smB d = true → (pyD d).showable = true ∧ (pyD d).leavesShort 13 = true ∧ (pyD d).bulk = bkD d
  | .non, _ => by simp [pyD, PyData.showable, PyData.leavesShort, PyData.bulk, bkD]
  | .bl _, _ => by simp [pyD, PyData.showable, PyData.leavesShort, PyData.bulk, bkD]
  | .int i, h => by
    simp only [smB, decide_eq_true_eq] at h
    have h1 := PyData.shown_int_le h
    have h2 : i.natAbs.log2 < 1920 := by
      by_cases z : i.natAbs = 0
      · rw [z]; decide
      · exact (Nat.log2_lt z).mpr (Nat.lt_of_lt_of_le h (Nat.le_trans (show 10 ^ 12 ≤ 2 ^ 40 by decide) (Nat.pow_le_pow_right (by decide) (by decide))))
    simp [pyD, PyData.showable, PyData.leavesShort, PyData.bulk, bkD, h1, h2]
  | .tup xs, h => by
    simp only [smB] at h
    obtain ⟨h1, h2, h3⟩ := shows_sm xs h
    simp only [pyD, PyData.showable, PyData.leavesShort, PyData.bulk, bkD]
    exact ⟨h1, h2, h3⟩
  | .str _, h => by simp [smB] at h
  | .loc _, h => by simp [smB] at h
  | .fn _, h => by simp [smB] at h
  | .thk, h => by simp [smB] at h
  | .er _ _, h => by simp [smB] at h
  | .rol _, h => by simp [smB] at h
theorem shows_sm : ∀ xs : List D, smBs xs = true → PyData.showableAll (pyDs xs) = true ∧ PyData.leavesShortAll 13 (pyDs xs) = true ∧ PyData.bulkAll (pyDs xs) = bkDs xs
  | [], _ => by simp [pyDs, PyData.showableAll, PyData.leavesShortAll, PyData.bulkAll, bkDs]
  | x :: xs, h => by
    simp only [smBs, Bool.and_eq_true] at h
    obtain ⟨a1, a2, a3⟩ := show_sm x h.1
    obtain ⟨b1, b2, b3⟩ := shows_sm xs h.2
    simp only [pyDs, PyData.showableAll, PyData.leavesShortAll, PyData.bulkAll, bkDs, a1, a2, a3, b1, b2, b3, Bool.and_true, and_self]
end
theorem q_repr (d : D) (m : Mem) (h1 : smB d = true) (h2 : dpD d < 40) (h3 : bkD d ≤ 2 ^ 20) : prim .repr [d] m = .ok (.str (pyD d).shown) m := by
  show p_repr [d] m = _
  obtain ⟨a1, a2, a3⟩ := show_sm d h1
  have hl := PyData.shown_fits_bulk (B := 13) (by decide) (by decide) a2 (by rw [a3]; exact h3)
  simp only [p_repr, toPy_sm m deepF d h1 h2, a1, hl, decide_true, Bool.and_self, okIf, if_true]
theorem q_reprB (b : Bool) (m : Mem) : prim .repr [.bl b] m = .ok (.str (pyD (.bl b)).shown) m := q_repr _ m rfl (by simp [dpD]) (by simp [bkD])
theorem sm_pts : ∀ l : List (Int × Int), (∀ p ∈ l, p.1.natAbs < 10 ^ 12 ∧ p.2.natAbs < 10 ^ 12) → smBs (l.map pt) = true ∧ dpDs (l.map pt) ≤ 1 ∧ bkDs (l.map pt) = 3 * l.length
  | [], _ => by simp [smBs, dpDs, bkDs]
  | p :: l, h => by
    obtain ⟨h1, h2, h3⟩ := sm_pts l fun q hq => h q (List.mem_cons_of_mem _ hq)
    obtain ⟨a1, a2⟩ := h p (List.mem_cons_self ..)
    simp only [List.map_cons, pt, smBs, smB, dpDs, dpD, bkDs, bkD, List.length_cons]
    refine ⟨by simp [h1, a1, a2], by omega, by omega⟩
end NV

set_option Elab.async false
set_option linter.all false
set_option maxRecDepth 100000
set_option maxHeartbeats 1000000
/-! NvRec: records and operations, in plain words. -/
namespace NV
open PySem
inductive Op where
  | put (k v : Int) | add (k v : Int) | get (k : Int) | rem (k : Int) | sum (a b : Int)
def Op.D : Op → D
  | .put k v => .tup [.str zs_put, .int k, .int v]
  | .add k v => .tup [.str zs_add, .int k, .int v]
  | .get k => .tup [.str zs_get, .int k]
  | .rem k => .tup [.str zs_remove, .int k]
  | .sum a b => .tup [.str zs_sum, .int a, .int b]
def Op.ok : Op → Prop
  | .put k v => 0 ≤ k ∧ k ≤ 63 ∧ -1000000000 ≤ v ∧ v ≤ 1000000000
  | .add k v => 0 ≤ k ∧ k ≤ 63 ∧ -1000000000 ≤ v ∧ v ≤ 1000000000
  | .get k => 0 ≤ k ∧ k ≤ 63
  | .rem k => 0 ≤ k ∧ k ≤ 63
  | .sum a b => 0 ≤ a ∧ a ≤ b ∧ b ≤ 63 ∧ a ≤ 63 ∧ 0 ≤ b
def Op.lo : Op → Int
  | .put k _ => k
  | .add k _ => k
  | .get k => k
  | .rem k => k
  | .sum a _ => a
def Op.hi : Op → Int
  | .put k _ => k
  | .add k _ => k
  | .get k => k
  | .rem k => k
  | .sum _ b => b
/-- 0 reads, 1 adds, 2 writes -/
def Op.md : Op → Nat
  | .put _ _ => 2
  | .add _ _ => 1
  | .get _ => 0
  | .rem _ => 2
  | .sum _ _ => 0
def mdS : Nat → Str
  | 0 => zs_read
  | 1 => zs_add
  | _ => zs_write
def mdC (a b : Nat) : Bool := a != b || a == 2
def Op.cf (o p : Op) : Bool := decide (o.lo ≤ p.hi) && (decide (p.lo ≤ o.hi) && mdC o.md p.md)
theorem nl_op (o : Op) : o.D.nl = true := by cases o <;> rfl
theorem md_le (o : Op) : o.md ≤ 2 := by cases o <;> simp [Op.md]
theorem pow9 (m : Mem) : prim .pow [.int 10, .int 9] m = .ok (.int 1000000000) m := rfl
theorem mdS_ok (a : Nat) : PyData.strOk (mdS a) = true := by
  match a with
  | 0 => exact ok_zs_read
  | 1 => exact ok_zs_add
  | _ + 2 => exact ok_zs_write
theorem mdS_eq (a b : Nat) (ha : a ≤ 2) (hb : b ≤ 2) : (!decide (mdS a = mdS b) || decide (mdS a = zs_write)) = mdC a b := by
  match a, b, ha, hb with
  | 0, 0, _, _ => decide
  | 0, 1, _, _ => decide
  | 0, 2, _, _ => decide
  | 1, 0, _, _ => decide
  | 1, 1, _, _ => decide
  | 1, 2, _, _ => decide
  | 2, 0, _, _ => decide
  | 2, 1, _, _ => decide
  | 2, 2, _, _ => decide
  | a + 3, _, h, _ => omega
  | _, b + 3, _, h => omega
/-- what stands in drawn records -/
def Good (l : List (Int × Int)) : Prop := (∀ p ∈ l, 0 ≤ p.1 ∧ p.1 ≤ 63 ∧ -1000000000 ≤ p.2 ∧ p.2 ≤ 1000000000) ∧ (l.map (·.1)).Nodup
theorem Good.put {l : List (Int × Int)} {k v : Int} (h : Good l) (hk : 0 ≤ k ∧ k ≤ 63) (hv : -1000000000 ≤ v ∧ v ≤ 1000000000) : Good (putI l k v) :=
  ⟨fun p hp => by
    rcases putI_mem k v l p hp with e | hp
    · rw [e]; exact ⟨hk.1, hk.2, hv.1, hv.2⟩
    · exact h.1 p hp, putI_keys k v l h.2⟩
/-- records as they are kept: in the order of their keys -/
def Can (l : List (Int × Int)) : Prop := (∀ p ∈ l, 0 ≤ p.1 ∧ p.1 ≤ 63 ∧ -1000000000 ≤ p.2 ∧ p.2 ≤ 1000000000) ∧ l.Pairwise (fun p q => p.1 < q.1)
theorem can_of {l : List (Int × Int)} (h : Good l) : Can (isort ltP l) := by
  refine ⟨fun p hp => h.1 p ((isort_perm l).mem_iff.mp hp), ?_⟩
  have s := isort_sorted ltP_le ltP_ge leP_tr l
  have nd : ((isort ltP l).map (·.1)).Nodup := ((isort_perm l).map (·.1)).nodup_iff.mpr h.2
  have nd2 : (isort ltP l).Pairwise (fun p q => p.1 ≠ q.1) := List.pairwise_map.mp nd
  refine (s.and nd2).imp fun {p q} hpq => ?_
  obtain ⟨h1, h2⟩ := hpq
  unfold leP at h1
  omega
theorem can_len {l : List (Int × Int)} (h : Good l) (hz : l.length ≤ 64) : (isort ltP l).length ≤ 64 := by rw [(isort_perm l).length_eq]; exact hz
/-! fits_records -/
theorem filt_true {α : Type} : ∀ xs : List α, xs.filterMap (fun _ => some (D.bl true)) = xs.map fun _ => D.bl true
  | [] => rfl
  | x :: xs => by rw [List.filterMap_cons, List.map_cons, filt_true xs]
theorem zip_adj : ∀ {l : List (Int × Int)}, l.Pairwise (fun p q => p.1 < q.1) → ∀ x ∈ zipD (l.map pt) ((l.map pt).drop 1), ∃ p q : Int × Int, x = .tup [pt p, pt q] ∧ p.1 < q.1
  | [], _, x, h => by simp [zipD] at h
  | [p], _, x, h => by simp [zipD] at h
  | p :: q :: l, h, x, hx => by
    have e : zipD ((p :: q :: l).map pt) (((p :: q :: l).map pt).drop 1) = .tup [pt p, pt q] :: zipD ((q :: l).map pt) (((q :: l).map pt).drop 1) := rfl
    rw [e] at hx
    rw [List.pairwise_cons] at h
    rcases List.mem_cons.mp hx with e2 | hx
    · exact ⟨p, q, e2, h.1 q (List.mem_cons_self ..)⟩
    · exact zip_adj h.2 x hx
/-! the plain law: what does not conflict changes places -/
def lkO : List (Int × Int) → Int → Option Int
  | [], _ => none
  | (a, b) :: r, k => if a = k then some b else lkO r k
abbrev Srt1 (l : List (Int × Int)) : Prop := l.Pairwise (fun p q => p.1 < q.1)
theorem lk_mem : ∀ {l : List (Int × Int)}, Srt1 l → ∀ k v, lkO l k = some v ↔ (k, v) ∈ l
  | [], _, k, v => by simp [lkO]
  | (a, b) :: r, h, k, v => by
    have h := List.pairwise_cons.mp h
    unfold lkO
    by_cases e : a = k
    · subst e
      rw [if_pos rfl]
      constructor
      · intro z
        cases z
        exact List.mem_cons_self ..
      · intro z
        rcases List.mem_cons.mp z with z | z
        · cases z; rfl
        · exact absurd (h.1 _ z) (Int.lt_irrefl _)
    · rw [if_neg e, lk_mem h.2 k v]
      constructor
      · exact List.mem_cons_of_mem _
      · intro z
        rcases List.mem_cons.mp z with z | z
        · cases z; exact absurd rfl e
        · exact z
theorem mem_ext : ∀ {l m : List (Int × Int)}, Srt1 l → Srt1 m → (∀ p, p ∈ l ↔ p ∈ m) → l = m
  | [], [], _, _, _ => rfl
  | [], q :: m, _, _, h => absurd ((h q).mpr (List.mem_cons_self ..)) (by simp)
  | p :: l, [], _, _, h => absurd ((h p).mp (List.mem_cons_self ..)) (by simp)
  | p :: l, q :: m, h1, h2, h => by
    have h1 := List.pairwise_cons.mp h1
    have h2 := List.pairwise_cons.mp h2
    have e : p = q := by
      rcases List.mem_cons.mp ((h p).mp (List.mem_cons_self ..)) with e | e1
      · exact e
      · rcases List.mem_cons.mp ((h q).mpr (List.mem_cons_self ..)) with e | e2
        · exact e.symm
        · have a := h1.1 q e2
          have b := h2.1 p e1
          omega
    subst e
    rw [mem_ext h1.2 h2.2 fun x => ?_]
    constructor
    · intro hx
      rcases List.mem_cons.mp ((h x).mp (List.mem_cons_of_mem _ hx)) with e | z
      · rw [e] at hx
        exact absurd (h1.1 _ hx) (Int.lt_irrefl _)
      · exact z
    · intro hx
      rcases List.mem_cons.mp ((h x).mpr (List.mem_cons_of_mem _ hx)) with e | z
      · rw [e] at hx
        exact absurd (h2.1 _ hx) (Int.lt_irrefl _)
      · exact z
def addO (k : Int) : Option Int → List (Int × Int)
  | none => []
  | some v => [(k, v)]
def ww (l : List (Int × Int)) (k : Int) (o : Option Int) : List (Int × Int) := isort ltP (l.filter (fun p => !decide (p.1 = k)) ++ addO k o)
theorem ww_mem {l : List (Int × Int)} {k : Int} {o : Option Int} {p : Int × Int} : p ∈ ww l k o ↔ (p ∈ l ∧ p.1 ≠ k) ∨ (p.1 = k ∧ o = some p.2) := by
  unfold ww
  rw [(isort_perm _).mem_iff, List.mem_append, List.mem_filter]
  cases o with
  | none => simp [addO]
  | some v =>
    simp only [addO, List.mem_singleton, Bool.not_eq_true', decide_eq_false_iff_not, Option.some.injEq]
    constructor
    · rintro (h | h)
      · exact .inl h
      · exact .inr (by rw [h]; exact ⟨rfl, rfl⟩)
    · rintro (h | ⟨h1, h2⟩)
      · exact .inl h
      · exact .inr (Prod.ext h1 h2.symm)
theorem ww_srt {l : List (Int × Int)} (h : Srt1 l) (k : Int) (o : Option Int) : Srt1 (ww l k o) := by
  have nd : ((l.filter (fun p => !decide (p.1 = k)) ++ addO k o).map (·.1)).Nodup := by
    rw [List.map_append, List.nodup_append]
    refine ⟨?_, ?_, ?_⟩
    · exact List.pairwise_map.mpr ((h.filter _).imp fun {p q} z => by omega)
    · cases o <;> simp [addO]
    · intro a ha b hb
      obtain ⟨p, hp, rfl⟩ := List.mem_map.mp ha
      have q := (List.mem_filter.mp hp).2
      cases o with
      | none => simp [addO] at hb
      | some v =>
        simp only [addO, List.map_cons, List.map_nil, List.mem_singleton] at hb
        subst hb
        simpa using q
  have s := isort_sorted ltP_le ltP_ge leP_tr (l.filter (fun p => !decide (p.1 = k)) ++ addO k o)
  have nd1 := ((isort_perm (lt := ltP) (l.filter (fun p => !decide (p.1 = k)) ++ addO k o)).map (·.1)).nodup_iff.mpr nd
  have nd2 := List.pairwise_map.mp nd1
  refine (s.and nd2).imp fun {p q} hpq => ?_
  obtain ⟨h1, h2⟩ := hpq
  unfold leP at h1
  omega
theorem ww_lk {l : List (Int × Int)} (h : Srt1 l) (k j : Int) (o : Option Int) : lkO (ww l k o) j = if j = k then o else lkO l j := by
  have key : ∀ v, lkO (ww l k o) j = some v ↔ (if j = k then o else lkO l j) = some v := fun v => by
    rw [lk_mem (ww_srt h k o), ww_mem]
    by_cases e : j = k
    · simp [e]
    · simp [e, lk_mem h]
  cases e : lkO (ww l k o) j with
  | some v => exact ((key v).mp e).symm
  | none =>
    cases e2 : (if j = k then o else lkO l j) with
    | none => rfl
    | some v =>
      rw [(key v).mpr e2] at e
      cases e
theorem ww_comm {l : List (Int × Int)} (h : Srt1 l) {k j : Int} (hk : k ≠ j) (a b : Option Int) : ww (ww l k a) j b = ww (ww l j b) k a := by
  refine mem_ext (ww_srt (ww_srt h k a) j b) (ww_srt (ww_srt h j b) k a) fun p => ?_
  rw [ww_mem, ww_mem, ww_mem, ww_mem]
  constructor
  · rintro (⟨⟨h1, h2⟩ | ⟨h1, h2⟩, h3⟩ | ⟨h1, h2⟩)
    · exact .inl ⟨.inl ⟨h1, h3⟩, h2⟩
    · exact .inr ⟨h1, h2⟩
    · exact .inl ⟨.inr ⟨h1, h2⟩, by omega⟩
  · rintro (⟨⟨h1, h2⟩ | ⟨h1, h2⟩, h3⟩ | ⟨h1, h2⟩)
    · exact .inl ⟨.inl ⟨h1, h3⟩, h2⟩
    · exact .inr ⟨h1, h2⟩
    · exact .inl ⟨.inr ⟨h1, h2⟩, by omega⟩
theorem ww_twice {l : List (Int × Int)} (h : Srt1 l) (k : Int) (a b : Option Int) : ww (ww l k a) k b = ww l k b := by
  refine mem_ext (ww_srt (ww_srt h k a) k b) (ww_srt h k b) fun p => ?_
  rw [ww_mem, ww_mem, ww_mem]
  constructor
  · rintro (⟨⟨h1, h2⟩ | ⟨h1, h2⟩, h3⟩ | h1)
    · exact .inl ⟨h1, h2⟩
    · exact absurd h1 h3
    · exact .inr h1
  · rintro (⟨h1, h2⟩ | h1)
    · exact .inl ⟨.inl ⟨h1, h2⟩, h2⟩
    · exact .inr h1
def inRg (a b : Int) (p : Int × Int) : Bool := decide (a ≤ p.1) && decide (p.1 ≤ b)
def sumR (l : List (Int × Int)) (a b : Int) : Int := ((l.filter (inRg a b)).map (·.2)).sum
theorem ww_sum {l : List (Int × Int)} (h : Srt1 l) {k a b : Int} (hk : ¬ (a ≤ k ∧ k ≤ b)) (o : Option Int) : sumR (ww l k o) a b = sumR l a b := by
  unfold sumR
  rw [mem_ext ((ww_srt h k o).filter _) (h.filter _) fun p => ?_]
  rw [List.mem_filter, List.mem_filter, ww_mem]
  unfold inRg
  simp only [Bool.and_eq_true, decide_eq_true_eq]
  constructor
  · rintro ⟨⟨h1, h2⟩ | ⟨h1, h2⟩, h3⟩
    · exact ⟨h1, h3⟩
    · rw [h1] at h3
      exact absurd h3 hk
  · rintro ⟨h1, h3⟩
    exact ⟨.inl ⟨h1, fun e => hk (by rw [← e]; exact h3)⟩, h3⟩
def lkD (l : List (Int × Int)) (k : Int) : D := match lkO l k with
  | some v => .int v
  | none => .non
def rd (x : Int) : Int := (x + 1000000000) % 2000000001 - 1000000000
theorem rd_add (b x y : Int) : rd (rd (b + x) + y) = rd (rd (b + y) + x) := by
  unfold rd
  have e : ∀ u v : Int, ((u + 1000000000) % 2000000001 - 1000000000 + v + 1000000000) % 2000000001 = (u + v + 1000000000) % 2000000001 := fun u v => by
    have q : (u + 1000000000) % 2000000001 - 1000000000 + v + 1000000000 = (u + 1000000000) % 2000000001 + v := by omega
    rw [q, Int.emod_add_emod]
    congr 1
    omega
  rw [e, e]
  congr 2
  omega
/-- what an operation makes of records, and its result -/
def stp (l : List (Int × Int)) : Op → List (Int × Int) × D
  | .sum a b => (l, .int (sumR l a b))
  | .get k => (l, lkD l k)
  | .put k v => (ww l k (some v), lkD l k)
  | .rem k => (ww l k none, lkD l k)
  | .add k x => match lkO l k with
    | none => (l, .bl false)
    | some b => (ww l k (some (rd (b + x))), .bl true)
/-- .. one that is no sum, by what stands at its key -/
def opF : Op → Option Int → Option (Option Int)
  | .put _ v, _ => some (some v)
  | .rem _, _ => some none
  | .add _ x, some b => some (some (rd (b + x)))
  | _, _ => none
def opG : Op → Option Int → D
  | .add _ _, o => .bl o.isSome
  | _, some v => .int v
  | _, none => .non
def setO (l : List (Int × Int)) (k : Int) : Option (Option Int) → List (Int × Int)
  | none => l
  | some o => ww l k o
theorem setO_srt {l : List (Int × Int)} (h : Srt1 l) (k : Int) (o : Option (Option Int)) : Srt1 (setO l k o) := by
  cases o with
  | none => exact h
  | some o => exact ww_srt h k o
theorem setO_lk {l : List (Int × Int)} (h : Srt1 l) {k j : Int} (hk : j ≠ k) (o : Option (Option Int)) : lkO (setO l k o) j = lkO l j := by
  cases o with
  | none => rfl
  | some o => show lkO (ww l k o) j = _; rw [ww_lk h, if_neg hk]
theorem setO_sum {l : List (Int × Int)} (h : Srt1 l) {k a b : Int} (hk : ¬ (a ≤ k ∧ k ≤ b)) (o : Option (Option Int)) : sumR (setO l k o) a b = sumR l a b := by
  cases o with
  | none => rfl
  | some o => exact ww_sum h hk o
theorem setO_comm {l : List (Int × Int)} (h : Srt1 l) {k j : Int} (hk : k ≠ j) (a b : Option (Option Int)) : setO (setO l k a) j b = setO (setO l j b) k a := by
  cases a with
  | none => rfl
  | some a =>
    cases b with
    | none => rfl
    | some b => exact ww_comm h hk a b
def Op.isSum : Op → Bool
  | .sum _ _ => true
  | _ => false
theorem stp_key (l : List (Int × Int)) (o : Op) (h : o.isSum = false) : stp l o = (setO l o.lo (opF o (lkO l o.lo)), opG o (lkO l o.lo)) := by
  cases o <;> simp only [Op.isSum] at h <;> simp only [stp, Op.lo, lkD]
  · cases lkO l _ <;> rfl
  · cases lkO l _ <;> rfl
  · cases lkO l _ <;> rfl
  · cases lkO l _ <;> rfl
  · cases h
theorem lohi (o : Op) (h : o.isSum = false) : o.hi = o.lo := by cases o <;> first | rfl | cases h
theorem stp_comm {l : List (Int × Int)} (h : Srt1 l) (o p : Op) (hc : o.cf p = false) : (stp (stp l o).1 p).1 = (stp (stp l p).1 o).1 ∧ (stp l o).2 = (stp (stp l p).1 o).2 ∧ (stp (stp l o).1 p).2 = (stp l p).2 := by
  unfold Op.cf at hc
  simp only [Bool.and_eq_false_iff, decide_eq_false_iff_not] at hc
  cases so : o.isSum with
  | true =>
    obtain ⟨a, b, rfl⟩ : ∃ a b, o = .sum a b := by cases o <;> first | exact ⟨_, _, rfl⟩ | cases so
    cases sp : p.isSum with
    | true =>
      obtain ⟨a', b', rfl⟩ : ∃ a b, p = .sum a b := by cases p <;> first | exact ⟨_, _, rfl⟩ | cases sp
      exact ⟨rfl, rfl, rfl⟩
    | false =>
      have e := lohi p sp
      by_cases hd : a ≤ p.lo ∧ p.lo ≤ b
      · have hm : mdC 0 p.md = false := by
          rcases hc with hc | hc | hc
          · exact absurd hd.1 (by rw [e] at hc; exact hc)
          · exact absurd hd.2 hc
          · exact hc
        cases p <;> first | exact ⟨rfl, rfl, rfl⟩ | (cases hm)
      · rw [stp_key l p sp]
        refine ⟨?_, ?_, ?_⟩
        · show (stp l p).1 = _
          rw [stp_key l p sp]
          rfl
        · show D.int _ = D.int _
          rw [setO_sum h hd]
        · show (stp l p).2 = _
          rw [stp_key l p sp]
  | false =>
    have eo := lohi o so
    cases sp : p.isSum with
    | true =>
      obtain ⟨a, b, rfl⟩ : ∃ a b, p = .sum a b := by cases p <;> first | exact ⟨_, _, rfl⟩ | cases sp
      by_cases hd : a ≤ o.lo ∧ o.lo ≤ b
      · have hm : mdC o.md 0 = false := by
          rcases hc with hc | hc | hc
          · exact absurd hd.2 hc
          · exact absurd hd.1 (by rw [eo] at hc; exact hc)
          · exact hc
        cases o <;> first | exact ⟨rfl, rfl, rfl⟩ | (cases hm)
      · rw [stp_key l o so]
        refine ⟨?_, ?_, ?_⟩
        · show _ = (stp l o).1
          rw [stp_key l o so]
          rfl
        · show _ = (stp l o).2
          rw [stp_key l o so]
        · show D.int _ = D.int _
          rw [setO_sum h hd]
    | false =>
      have ep := lohi p sp
      by_cases hk : o.lo = p.lo
      · have hm : mdC o.md p.md = false := by
          rcases hc with hc | hc | hc
          · exact absurd (show o.lo ≤ p.hi by omega) hc
          · exact absurd (show p.lo ≤ o.hi by omega) hc
          · exact hc
        cases o <;> cases p <;> first
          | (cases hm; done)
          | (cases so; done)
          | (cases sp; done)
          | exact ⟨rfl, rfl, rfl⟩
          | skip
        rename_i k x j y
        have hkj : k = j := hk
        subst hkj
        simp only [stp]
        cases hl : lkO l k with
        | none => simp only [hl, and_self]
        | some b =>
          simp only [ww_lk h, if_true, ww_twice h, rd_add b x y, and_self]
      · rw [stp_key l o so, stp_key l p sp, stp_key _ p sp, stp_key _ o so]
        simp only [setO_lk h hk, setO_lk h (Ne.symm hk)]
        exact ⟨setO_comm h hk _ _, trivial, trivial⟩
/-! with_worth -/
def keep1 (k : Int) (d : D) : Option D := match pairOf d with
  | some p => if !decide (p.1 = k) then some d else none
  | none => none
def oD : Option Int → D
  | some v => .int v
  | none => .non
theorem addO_pt (k v : Int) : [D.tup [.int k, .int v]] = (addO k (some v)).map pt := rfl
def keep2 (a b : Int) (d : D) : Option D := match pairOf d with
  | some p => if inRg a b p then some (.int p.2) else none
  | none => none
theorem nl_lkD (l : List (Int × Int)) (k : Int) : (lkD l k).nl = true := by
  unfold lkD
  cases lkO l k <;> rfl
theorem nl_recD (l : List (Int × Int)) : (recD l).nl = true := pt_nl l
theorem nl_stp (l : List (Int × Int)) (o : Op) : (stp l o).2.nl = true := by
  cases o with
  | sum a b => rfl
  | get k => exact nl_lkD l k
  | put k v => exact nl_lkD l k
  | rem k => exact nl_lkD l k
  | add k x =>
    simp only [stp]
    cases lkO l k <;> rfl
/-! what is done keeps to the bounds -/
theorem rd_ok (x : Int) : -1000000000 ≤ rd x ∧ rd x ≤ 1000000000 := by
  unfold rd
  have h1 := Int.emod_nonneg (x + 1000000000) (show (2000000001 : Int) ≠ 0 by decide)
  have h2 := Int.emod_lt_of_pos (x + 1000000000) (show (0 : Int) < 2000000001 by decide)
  omega
theorem ww_can {l : List (Int × Int)} (h : Can l) {k : Int} (hk : 0 ≤ k ∧ k ≤ 63) {o : Option Int} (ho : ∀ v, o = some v → -1000000000 ≤ v ∧ v ≤ 1000000000) : Can (ww l k o) :=
  ⟨fun p hp => by
    rcases ww_mem.mp hp with ⟨h1, _⟩ | ⟨h1, h2⟩
    · exact h.1 p h1
    · have := ho _ h2
      omega, ww_srt h.2 k o⟩
theorem can_len64 {l : List (Int × Int)} (h : Can l) : l.length ≤ 64 := by
  have key : ∀ (l : List (Int × Int)) (lo : Int), l.Pairwise (fun p q => p.1 < q.1) → (∀ p ∈ l, lo ≤ p.1 ∧ p.1 ≤ 63) → (l.length : Int) ≤ 64 - lo ∨ l = [] := by
    intro l
    induction l with
    | nil => intro lo _ _; exact .inr rfl
    | cons p l ih =>
      intro lo hs hb
      have hs := List.pairwise_cons.mp hs
      have hp := hb p (List.mem_cons_self ..)
      left
      rcases ih (p.1 + 1) hs.2 (fun q hq => by have := hs.1 q hq; have := hb q (List.mem_cons_of_mem _ hq); omega) with z | z
      · simp only [List.length_cons]; omega
      · rw [z]; simp only [List.length_cons, List.length_nil]; omega
  rcases key l 0 h.2 (fun p hp => by have := h.1 p hp; omega) with z | z
  · omega
  · rw [z]; simp
theorem stp_can {l : List (Int × Int)} (h : Can l) {o : Op} (ho : o.ok) : Can (stp l o).1 := by
  cases o with
  | sum a b => exact h
  | get k => exact h
  | put k v => exact ww_can h ⟨ho.1, ho.2.1⟩ fun u e => by cases e; exact ho.2.2
  | rem k => exact ww_can h ho fun u e => by cases e
  | add k x =>
    simp only [stp]
    cases lkO l k with
    | none => exact h
    | some b => exact ww_can h ⟨ho.1, ho.2.1⟩ fun u e => by cases e; exact rd_ok _
theorem mdC_symm (a b : Nat) : mdC a b = mdC b a := by
  unfold mdC
  by_cases h : a = b
  · rw [h]
  · have h1 : (a != b) = true := by simpa using h
    have h2 : (b != a) = true := by simpa using Ne.symm h
    rw [h1, h2]
    rfl
theorem cf_symm (o p : Op) : p.cf o = o.cf p := by
  unfold Op.cf
  rw [mdC_symm p.md o.md]
  cases decide (p.lo ≤ o.hi) <;> cases decide (o.lo ≤ p.hi) <;> rfl
theorem sm_rec {l : List (Int × Int)} (h : Can l) : smB (recD l) = true ∧ dpD (recD l) ≤ 2 ∧ bkD (recD l) = 3 * l.length := by
  obtain ⟨a, b, c⟩ := sm_pts l fun p hp => by
    have := h.1 p hp
    omega
  exact ⟨a, by simp only [recD, dpD]; omega, c⟩
theorem sumR_small {l : List (Int × Int)} (h : Can l) (a b : Int) : (sumR l a b).natAbs < 10 ^ 12 := by
  have hl := can_len64 h
  have key : ∀ l : List (Int × Int), (∀ p ∈ l, -1000000000 ≤ p.2 ∧ p.2 ≤ 1000000000) → -(1000000000 * (l.length : Int)) ≤ (l.map (·.2)).sum ∧ (l.map (·.2)).sum ≤ 1000000000 * (l.length : Int) := by
    intro l
    induction l with
    | nil => intro _; simp
    | cons p l ih =>
      intro hb
      have h1 := hb p (List.mem_cons_self ..)
      have h2 := ih fun q hq => hb q (List.mem_cons_of_mem _ hq)
      simp only [List.map_cons, List.sum_cons, List.length_cons]
      omega
  have k := key (l.filter (inRg a b)) fun p hp => by
    have := h.1 p (List.mem_filter.mp hp).1
    omega
  have hf := List.length_filter_le (inRg a b) l
  unfold sumR
  omega
theorem lkD_small {l : List (Int × Int)} (h : Can l) (k : Int) : smB (lkD l k) = true ∧ dpD (lkD l k) = 0 ∧ bkD (lkD l k) = 0 := by
  unfold lkD
  cases e : lkO l k with
  | none => simp [smB, dpD, bkD]
  | some v =>
    have := h.1 _ ((lk_mem h.2 k v).mp e)
    simp only [smB, dpD, bkD, decide_eq_true_eq, and_self, and_true]
    omega
theorem res_small {l : List (Int × Int)} (h : Can l) (o : Op) : smB (stp l o).2 = true ∧ dpD (stp l o).2 = 0 ∧ bkD (stp l o).2 = 0 := by
  cases o with
  | sum a b =>
    have := sumR_small h a b
    simp [stp, smB, dpD, bkD, this]
  | get k => exact lkD_small h k
  | put k v => exact lkD_small h k
  | rem k => exact lkD_small h k
  | add k x =>
    simp only [stp]
    cases lkO l k <;> simp [smB, dpD, bkD]
theorem repr3 {l : List (Int × Int)} {a b : D} (h : Can l) (ha : smB a = true ∧ dpD a = 0 ∧ bkD a = 0) (hb : smB b = true ∧ dpD b = 0 ∧ bkD b = 0) (m : Mem) : prim .repr [.tup [recD l, a, b]] m = .ok (.str (pyD (.tup [recD l, a, b])).shown) m := by
  obtain ⟨r1, r2, r3⟩ := sm_rec h
  have hl := can_len64 h
  refine q_repr _ m ?_ ?_ ?_
  · simp [smB, smBs, r1, ha.1, hb.1]
  · simp only [dpD, dpDs, ha.2.1, hb.2.1]
    omega
  · simp only [bkD, bkDs, r3, ha.2.2, hb.2.2]
    omega
theorem pow18 (m : Mem) : prim .pow [.int 10, .int 18] m = .ok (.int 1000000000000000000) m := rfl
theorem q_listR (ns : List Int) (m : Mem) : prim .list [.rol ns] m = newL m (ns.map D.int) := rfl
end NV

set_option Elab.async false
set_option linter.all false
set_option maxRecDepth 100000
set_option maxHeartbeats 1000000
/-! NvMx: a memory with new things behind it. -/
namespace NV
open PySem
/-- new things os behind a memory, and what was told of them -/
def mx (m : Mem) (os : List Ob) (u : List (Nat × Nat)) : Mem := ⟨m.objs ++ os, u ++ m.wr⟩
theorem mx_nil (m : Mem) : mx m [] [] = m := by
  unfold mx
  simp
theorem mx_push (m : Mem) (os : List Ob) (u : List (Nat × Nat)) (o : Ob) : (mx m os u).push o = mx m (os ++ [o]) u := by
  unfold mx Mem.push
  simp
theorem push_mx (m : Mem) (o : Ob) : m.push o = mx m [o] [] := by
  unfold mx Mem.push
  simp
theorem mx_len (m : Mem) (os : List Ob) (u : List (Nat × Nat)) : (mx m os u).len = m.len + os.length := by
  unfold mx Mem.len
  simp
theorem mx_mx (m : Mem) (os os' : List Ob) (u u' : List (Nat × Nat)) : mx (mx m os u) os' u' = mx m (os ++ os') (u' ++ u) := by
  unfold mx
  simp
theorem mx_get (m : Mem) (os : List Ob) (u : List (Nat × Nat)) (i : Nat) : (mx m os u).get (m.len + i) = os[i]? := by
  unfold mx Mem.get Mem.len
  rw [List.getElem?_append_right (by omega)]
  congr 1
  omega
theorem mx_get0 (m : Mem) (os : List Ob) (u : List (Nat × Nat)) : (mx m os u).get m.len = os[0]? := mx_get m os u 0
theorem mx_old {m : Mem} {k : Nat} {o : Ob} (h : m.get k = some o) (os : List Ob) (u : List (Nat × Nat)) : (mx m os u).get k = some o := by
  have hl := get_lt h
  unfold mx Mem.get at *
  unfold Mem.len at hl
  rw [List.getElem?_append_left hl]
  exact h
theorem cln_mx (m : Mem) (os os' : List Ob) (u : List (Nat × Nat)) : cln (mx m os u) (mx m os' u) = mx m (os'.take os.length) u := by
  unfold cln mx Mem.take Mem.len
  rw [newW_self, if_pos rfl]
  simp only [List.length_append]
  congr 1
  rw [List.take_append, List.take_of_length_le (by omega)]
  simp
theorem cln_mx0 (m : Mem) (os' : List Ob) : cln m (mx m os' []) = m := by
  have := cln_mx m [] os' []
  rw [mx_nil] at this
  rw [this]
  exact mx_nil m
/-- .. with what was told of new places -/
theorem cln_mxW (m : Mem) (os os' : List Ob) (u v : List (Nat × Nat)) (h : ∀ p ∈ v, m.len + os.length ≤ p.1) : cln (mx m os u) (mx m os' (v ++ u)) = mx m (os'.take os.length) u := by
  unfold cln mx Mem.take Mem.len
  rw [List.append_assoc, newW_app _ _ _ (fun p hp => by
    have := h p hp
    unfold Mem.len at this
    simpa using this), if_pos rfl]
  simp only [List.length_append]
  congr 1
  rw [List.take_append, List.take_of_length_le (by omega)]
  simp
theorem cln_mxW0 (m : Mem) (os' : List Ob) (v : List (Nat × Nat)) (h : ∀ p ∈ v, m.len ≤ p.1) : cln m (mx m os' v) = m := by
  have := cln_mxW m [] os' [] v (by simpa using h)
  rw [mx_nil, List.append_nil] at this
  rw [this]
  exact mx_nil m
theorem put_mx (m : Mem) (os : List Ob) (u : List (Nat × Nat)) (i : Nat) (o : Ob) : (mx m os u).put (m.len + i) o true = mx m (os.set i o) u := by
  unfold mx Mem.put Mem.len
  simp only [if_true]
  congr 1
  rw [List.set_append_right _ _ (by omega)]
  congr 2
  omega
theorem put_mxW (m : Mem) (os : List Ob) (u : List (Nat × Nat)) (i : Nat) (o : Ob) : (mx m os u).put (m.len + i) o false = mx m (os.set i o) ((m.len + i, m.len + os.length) :: u) := by
  unfold mx Mem.put Mem.len
  simp only [Bool.false_eq_true, if_false, List.cons_append, List.length_append]
  congr 1
  rw [List.set_append_right _ _ (by omega)]
  congr 2
  omega
/-- an old thing changed, nothing told -/
def Mem.upd (m : Mem) (k : Nat) (o : Ob) : Mem := ⟨m.objs.set k o, m.wr⟩
theorem upd_len (m : Mem) (k : Nat) (o : Ob) : (m.upd k o).len = m.len := by simp [Mem.upd, Mem.len]
theorem upd_get {m : Mem} {k : Nat} (h : k < m.len) (o : Ob) : (m.upd k o).get k = some o := by
  unfold Mem.upd Mem.get
  exact List.getElem?_set_self h
theorem upd_get_ne {m : Mem} {k j : Nat} (h : j ≠ k) (o : Ob) : (m.upd k o).get j = m.get j := by
  unfold Mem.upd Mem.get
  exact List.getElem?_set_ne (Ne.symm h)
theorem upd_upd (m : Mem) (k : Nat) (o p : Ob) : (m.upd k o).upd k p = m.upd k p := by simp [Mem.upd]
theorem upd_self {m : Mem} {k : Nat} {o : Ob} (h : m.get k = some o) : m.upd k o = m := by
  unfold Mem.upd
  unfold Mem.get at h
  congr 1
  apply List.ext_getElem?
  intro i
  by_cases e : i = k
  · subst e
    rw [h, List.getElem?_set_self (List.getElem?_eq_some_iff.mp h).1]
  · rw [List.getElem?_set_ne (Ne.symm e)]
theorem put_upd (m : Mem) (k : Nat) (o : Ob) : m.put k o true = m.upd k o := rfl
theorem put_old {m : Mem} {k : Nat} (h : k < m.len) (os : List Ob) (u : List (Nat × Nat)) (o : Ob) : (mx m os u).put k o true = mx (m.upd k o) os u := by
  unfold mx Mem.put Mem.upd
  unfold Mem.len at h
  simp only [if_true]
  congr 1
  exact List.set_append_left _ _ h
theorem cln_upd (m : Mem) (k : Nat) (o : Ob) (os : List Ob) : cln m (mx (m.upd k o) os []) = m.upd k o := by
  unfold cln mx Mem.upd Mem.take Mem.len
  simp only [List.nil_append]
  rw [newW_self, if_pos rfl]
  congr 1
  have : (m.objs.set k o ++ os).take m.objs.length = ((m.objs.set k o) ++ os).take (m.objs.set k o).length := by rw [List.length_set]
  rw [this, List.take_left]
theorem mx_cm (c : Cup) (rs os : List Ob) (e u : List (Nat × Nat)) : mx (cm c rs e) os u = cm c (rs ++ os) (u ++ e) := rfl
/-- a list at a new place is kept where it is made -/
theorem clean_mx (m : Mem) (os : List Ob) (u : List (Nat × Nat)) (o : Ob) (h : o.nl = true) : clean (mx m os u) (.loc (m.len + os.length)) (mx m (os ++ [o]) u) = .ok (.loc (m.len + os.length)) (mx m (os ++ [o]) u) := by
  have := clean_new (m := mx m os u) h
  rw [mx_push, mx_len] at this
  exact this
theorem clean_mx0 (m : Mem) (o : Ob) (h : o.nl = true) : clean m (.loc m.len) (mx m [o] []) = .ok (.loc m.len) (mx m [o] []) := by
  have := clean_new (m := m) h
  rw [push_mx] at this
  exact this
/-- .. and what stands behind more is let go -/
theorem clean_mxG (m : Mem) (os os' : List Ob) (u : List (Nat × Nat)) (i : Nat) (o : Ob) (h : o.nl = true) (hi : os'[i]? = some o) (hl : os.length ≤ i) : clean (mx m os u) (.loc (m.len + i)) (mx m os' u) = .ok (.loc (m.len + os.length)) (mx m (os'.take os.length ++ [o]) u) := by
  unfold clean
  rw [nl_loc]
  simp only [mx_get, hi]
  have e : (newW (mx m os u).len (mx m os u).wr (mx m os' u).wr && (Nat.ble (mx m os u).len (m.len + i) && o.nl)) = true := by
    rw [h, mx_len]
    have e1 : Nat.ble (m.len + os.length) (m.len + i) = true := Nat.ble_eq.mpr (by omega)
    rw [e1]
    have : newW (m.len + os.length) (mx m os u).wr (mx m os' u).wr = true := newW_self _ _
    rw [this]
    rfl
  rw [e, if_pos rfl, mx_len]
  congr 1
  unfold mx Mem.take Mem.push Mem.len
  simp only [List.length_append]
  congr 1
  rw [List.take_append, List.take_of_length_le (by omega)]
  simp

/-! ### walks -/
theorem lcI_pure {g : D → Mem → Rs (Option D)} {h : D → Option D} {m : Mem} {a : Nat} {xs : List D} (hl : lstOf m (.loc a) = some xs) (hg : ∀ x ∈ xs, g x m = .ok (h x) m) : ∀ (f i : Nat), xs.length - i < f → lcI g (.dyn a) f i m = .ok ((xs.drop i).filterMap h) m
  | 0, i, hf => by omega
  | f + 1, i, hf => by
    cases e : xs[i]? with
    | none =>
      have hi := List.getElem?_eq_none_iff.mp e
      rw [List.drop_eq_nil_of_le hi]
      simp only [lcI, itAt, hl, e, List.filterMap_nil]
    | some x =>
      have hi := (List.getElem?_eq_some_iff.mp e).1
      have hx : xs[i] = x := (List.getElem?_eq_some_iff.mp e).2
      have ih := lcI_pure hl hg f (i + 1) (by omega)
      rw [List.drop_eq_getElem_cons hi, hx, List.filterMap_cons]
      simp only [lcI, itAt, hl, e, hg x (List.mem_of_getElem? e), Rs.bind, ih]
      cases h x <;> rfl
/-- a comprehension over a row, each turn leaving the memory -/
theorem lc_gen {C : Ct} {own : List Nat} {tg : TG} {e0 : CE} {ts : List CT} {e : CE} {s : Sl} {m m1 : Mem} {d : D} {xs : List D} {h : D → Option D} (he : evE C e0 s m = .ok d m1) (hd : seqOf m1 d = some xs)
    (ht : ∀ x ∈ xs, turnE tg own s (evTs C ts) (evE C e) x m1 = .ok (h x) m1) (hfu : xs.length < C.fu) : evE C (.lc own tg .seq [e0] ts e) s m = newL m1 (xs.filterMap h) := by
  show xLc C own tg .seq (xCons (evE C e0) xNil) (evTs C ts) (evE C e) s m = _
  unfold xLc xCons xNil
  simp only [he, Rs.bind, itOf, itSeq]
  cases d <;> simp only [seqOf] at hd <;> try (cases hd; done)
  · cases hd
    simp only [lcRun]
    rw [lcF_pure ht]
    rfl
  · rename_i a
    have hi : isLst m1 a = true := by
      unfold isLst
      split at hd <;> simp_all
    have hl : lstOf m1 (.loc a) = some xs := hd
    simp only [hi, if_true, lcRun]
    rw [lcI_pure hl ht _ 0 (by simpa using hfu)]
    rfl
theorem forI_F {b : Sl → Mem → Rt} {tg : TG} {a : Nat} {xs : List D} (inv : Sl → Mem → Prop) (hl : ∀ s m, inv s m → lstOf m (.loc a) = some xs) (hs : ∀ x s m s1 s2 m2, inv s m → asgT tg x s = some s1 → b s1 m = .next s2 m2 → inv s2 m2) :
    ∀ (f i : Nat) (s : Sl) (m : Mem), xs.length - i < f → inv s m → forI b tg (.dyn a) f i s m = forF b tg (xs.drop i) s m
  | 0, i, s, m, hf, _ => by omega
  | f + 1, i, s, m, hf, hi => by
    have h0 := hl s m hi
    cases e : xs[i]? with
    | none =>
      have hi := List.getElem?_eq_none_iff.mp e
      rw [List.drop_eq_nil_of_le hi]
      simp only [forI, forF, itAt, h0, e]
    | some x =>
      have hlt := (List.getElem?_eq_some_iff.mp e).1
      have hx : xs[i] = x := (List.getElem?_eq_some_iff.mp e).2
      rw [List.drop_eq_getElem_cons hlt, hx]
      simp only [forI, forF, itAt, h0, e]
      cases ha : asgT tg x s with
      | none => rfl
      | some s1 =>
        simp only
        cases hb : b s1 m with
        | next s2 m2 =>
          simp only
          exact forI_F inv hl hs f (i + 1) s2 m2 (by omega) (hs x s m s1 s2 m2 hi ha hb)
        | _ => rfl
theorem isLst_of {m : Mem} {a : Nat} {xs : List D} (h : m.get a = some (.lst xs)) : isLst m a = true := by
  unfold isLst
  rw [h]
theorem lstOf_of {m : Mem} {a : Nat} {xs : List D} (h : m.get a = some (.lst xs)) : lstOf m (.loc a) = some xs := by
  unfold lstOf
  simp only [h]
theorem seqOf_of {m : Mem} {a : Nat} {xs : List D} (h : m.get a = some (.lst xs)) : seqOf m (.loc a) = some xs := by
  unfold seqOf
  simp only [h]
theorem isDic_of {m : Mem} {a : Nat} {xs : List (D × D)} (h : m.get a = some (.dic xs)) : isDic m a = true := by
  unfold isDic
  rw [h]
/-! ### dicts of ints -/
theorem dGet_dk (j : Int) : ∀ l : List (Int × Int), dGet (dk l) (.int j) = (lkO l j).map D.int
  | [] => rfl
  | (a, b) :: r => by
    have ih := dGet_dk j r
    simp only [dk, List.map_cons, dGet, keyEq, lkO] at ih ⊢
    by_cases h : a = j
    · simp [h]
    · simp [h, ih]
theorem mapO_kv : ∀ l : List (Int × Int), mapO kvOf (l.map pt) = some (dk l)
  | [] => rfl
  | p :: l => by
    simp only [List.map_cons, mapO, mapO_kv l]
    rfl
theorem putI_new {k v : Int} : ∀ {l : List (Int × Int)}, (∀ p ∈ l, p.1 ≠ k) → putI l k v = l ++ [(k, v)]
  | [], _ => rfl
  | (a, b) :: r, h => by
    unfold putI
    rw [if_neg (h (a, b) (List.mem_cons_self ..)), putI_new fun p hp => h p (List.mem_cons_of_mem _ hp)]
    rfl
theorem dPuts_dk : ∀ (l acc : List (Int × Int)), ((acc ++ l).map (·.1)).Nodup → dPuts (dk acc) (dk l) = dk (acc ++ l)
  | [], acc, _ => by simp [dk, dPuts]
  | (a, b) :: r, acc, h => by
    have e : dk ((a, b) :: r) = (.int a, .int b) :: dk r := rfl
    rw [e, dPuts, dPut_dk]
    have hn : ∀ p ∈ acc, p.1 ≠ a := by
      intro p hp z
      rw [List.map_append, List.nodup_append] at h
      exact h.2.2 p.1 (List.mem_map.mpr ⟨p, hp, rfl⟩) a (by simp) z
    rw [putI_new hn, dPuts_dk r (acc ++ [(a, b)]) (by simpa using h)]
    simp
theorem q_dictP {m : Mem} {k : Nat} {l : List (Int × Int)} (h : m.get k = some (.lst (l.map pt))) (nd : (l.map (·.1)).Nodup) : prim .dict [.loc k] m = .ok (.loc m.len) (m.push (.dic (dk l))) := by
  show p_dict [.loc k] m = _
  simp only [p_dict, h, mapO_kv]
  have e := dPuts_dk l [] (by simpa using nd)
  simp only [List.nil_append] at e
  have e0 : dk [] = [] := rfl
  rw [e0] at e
  rw [e]
theorem q_dictC {m : Mem} {k : Nat} {kvs : List (D × D)} (h : m.get k = some (.dic kvs)) : prim .dict [.loc k] m = .ok (.loc m.len) (m.push (.dic kvs)) := by
  show p_dict [.loc k] m = _
  simp only [p_dict, h]
theorem q_idxD {m : Mem} {k : Nat} {l : List (Int × Int)} {j v : Int} (h : m.get k = some (.dic (dk l))) (hv : lkO l j = some v) : prim .idx [.loc k, .int j] m = .ok (.int v) m := by
  show p_idx [.loc k, .int j] m = _
  simp only [p_idx, h, dGet_dk, hv, Option.map_some]
theorem q_get2D {m : Mem} {k : Nat} {l : List (Int × Int)} (j : Int) (h : m.get k = some (.dic (dk l))) : prim .get2 [.loc k, .int j, .non] m = .ok (lkD l j) m := by
  show p_get2 [.loc k, .int j, .non] m = _
  simp only [p_get2, h, keyD, if_true, dGet_dk]
  unfold lkD
  cases lkO l j <;> rfl
theorem lk_nodup : ∀ {l : List (Int × Int)}, (l.map (·.1)).Nodup → ∀ p ∈ l, lkO l p.1 = some p.2
  | (a, b) :: r, h, p, hp => by
    rw [List.map_cons, List.nodup_cons] at h
    unfold lkO
    rcases List.mem_cons.mp hp with e | hp
    · rw [e, if_pos rfl]
    · have : a ≠ p.1 := fun z => h.1 (List.mem_map.mpr ⟨p, hp, z.symm⟩)
      rw [if_neg this]
      exact lk_nodup h.2 p hp
/-! ### a dict behind an operation -/
def rdL (t : Int) : Int := if t > 1000000000 then t - 2000000001 else if t < -1000000000 then t + 2000000001 else t
theorem rdL_rd {x : Int} (h : -2000000000 ≤ x ∧ x ≤ 2000000000) : rdL x = rd x := by
  unfold rdL rd
  split
  · omega
  · split <;> omega
/-- what the dict holds behind an operation, and the result -/
def dstp (l : List (Int × Int)) : Op → List (Int × Int) × D
  | .sum a b => (l, .int (sumR l a b))
  | .get k => (l, lkD l k)
  | .put k v => (putI l k v, lkD l k)
  | .rem k => (l.filter (fun p => !decide (p.1 = k)), lkD l k)
  | .add k x => match lkO l k with
    | none => (l, .bl false)
    | some b => (putI l k (rdL (b + x)), .bl true)
theorem lk_mem_nd {l : List (Int × Int)} (h : (l.map (·.1)).Nodup) (k v : Int) : lkO l k = some v ↔ (k, v) ∈ l := by
  constructor
  · intro e
    induction l with
    | nil => simp [lkO] at e
    | cons p r ih =>
      obtain ⟨a, b⟩ := p
      unfold lkO at e
      rw [List.map_cons, List.nodup_cons] at h
      split at e
      · rename_i hk
        cases e
        rw [hk]
        exact List.mem_cons_self ..
      · exact List.mem_cons_of_mem _ (ih h.2 e)
  · intro hm
    exact lk_nodup h (k, v) hm
theorem lk_isort {l : List (Int × Int)} (h : (l.map (·.1)).Nodup) (k : Int) : lkO (isort ltP l) k = lkO l k := by
  have nd : ((isort ltP l).map (·.1)).Nodup := ((isort_perm l).map (·.1)).nodup_iff.mpr h
  cases e : lkO l k with
  | some v => rw [lk_mem_nd nd, (isort_perm l).mem_iff, ← lk_mem_nd h]; exact e
  | none =>
    cases e2 : lkO (isort ltP l) k with
    | none => rfl
    | some v =>
      rw [lk_mem_nd nd, (isort_perm l).mem_iff, ← lk_mem_nd h, e] at e2
      cases e2
theorem sum_perm {a b : List Int} (h : a.Perm b) : a.sum = b.sum := by
  induction h with
  | nil => rfl
  | cons x _ ih => simp [ih]
  | swap x y l => simp; omega
  | trans _ _ i1 i2 => exact i1.trans i2
theorem sumR_perm {l l' : List (Int × Int)} (h : l.Perm l') (a b : Int) : sumR l a b = sumR l' a b := sum_perm ((h.filter _).map _)
theorem putI_mem_iff {l : List (Int × Int)} (h : (l.map (·.1)).Nodup) (k v : Int) (p : Int × Int) : p ∈ putI l k v ↔ (p ∈ l ∧ p.1 ≠ k) ∨ p = (k, v) := by
  induction l with
  | nil => simp [putI]
  | cons q r ih =>
    obtain ⟨a, b⟩ := q
    rw [List.map_cons, List.nodup_cons] at h
    unfold putI
    split
    · rename_i e
      rw [List.mem_cons, List.mem_cons]
      constructor
      · rintro (z | z)
        · exact .inr z
        · exact .inl ⟨.inr z, fun e2 => h.1 (by show a ∈ r.map (·.1); rw [e, ← e2]; exact List.mem_map.mpr ⟨p, z, rfl⟩)⟩
      · rintro (⟨z | z, hp⟩ | z)
        · rw [z] at hp; exact absurd e hp
        · exact .inr z
        · exact .inl z
    · rename_i e
      rw [List.mem_cons, List.mem_cons, ih h.2]
      constructor
      · rintro (z | ⟨z, hp⟩ | z)
        · exact .inl ⟨.inl z, by rw [z]; exact e⟩
        · exact .inl ⟨.inr z, hp⟩
        · exact .inr z
      · rintro (⟨z | z, hp⟩ | z)
        · exact .inl z
        · exact .inr (.inl ⟨z, hp⟩)
        · exact .inr (.inr z)
theorem srt_isort {l : List (Int × Int)} (h : (l.map (·.1)).Nodup) : Srt1 (isort ltP l) := by
  have s := isort_sorted ltP_le ltP_ge leP_tr l
  have nd : ((isort ltP l).map (·.1)).Nodup := ((isort_perm l).map (·.1)).nodup_iff.mpr h
  refine (s.and (List.pairwise_map.mp nd)).imp fun {p q} hpq => ?_
  obtain ⟨h1, h2⟩ := hpq
  unfold leP at h1
  omega
theorem put_ww {l : List (Int × Int)} (h : (l.map (·.1)).Nodup) (k v : Int) : isort ltP (putI l k v) = ww (isort ltP l) k (some v) := by
  refine mem_ext (srt_isort (putI_keys k v l h)) (ww_srt (srt_isort h) k _) fun p => ?_
  rw [(isort_perm _).mem_iff, putI_mem_iff h, ww_mem, (isort_perm _).mem_iff]
  constructor
  · rintro (z | z)
    · exact .inl z
    · rw [z]; exact .inr ⟨rfl, rfl⟩
  · rintro (z | ⟨z1, z2⟩)
    · exact .inl z
    · exact .inr (Prod.ext z1 (Option.some.inj z2).symm)
theorem rem_nd {l : List (Int × Int)} (h : (l.map (·.1)).Nodup) (f : Int × Int → Bool) : ((l.filter f).map (·.1)).Nodup := List.Sublist.nodup (List.Sublist.map _ List.filter_sublist) h
theorem rem_ww {l : List (Int × Int)} (h : (l.map (·.1)).Nodup) (k : Int) : isort ltP (l.filter fun p => !decide (p.1 = k)) = ww (isort ltP l) k none := by
  refine mem_ext (srt_isort (rem_nd h _)) (ww_srt (srt_isort h) k _) fun p => ?_
  rw [(isort_perm _).mem_iff, List.mem_filter, ww_mem, (isort_perm _).mem_iff]
  simp
/-- .. is what stands in the records behind it -/
theorem dstp_stp {l : List (Int × Int)} (h : Good l) {o : Op} (ho : o.ok) : isort ltP (dstp l o).1 = (stp (isort ltP l) o).1 ∧ (dstp l o).2 = (stp (isort ltP l) o).2 ∧ Good (dstp l o).1 := by
  obtain ⟨hb, nd⟩ := h
  have hl : ∀ k, lkD (isort ltP l) k = lkD l k := fun k => by unfold lkD; rw [lk_isort nd]
  cases o with
  | sum a b => exact ⟨rfl, by simp only [dstp, stp]; rw [sumR_perm (isort_perm l)], hb, nd⟩
  | get k => exact ⟨rfl, (hl k).symm, hb, nd⟩
  | put k v =>
    refine ⟨put_ww nd k v, (hl k).symm, fun p hp => ?_, putI_keys k v l nd⟩
    rcases putI_mem k v l p hp with e | hp
    · rw [e]; exact ⟨ho.1, ho.2.1, ho.2.2.1, ho.2.2.2⟩
    · exact hb p hp
  | rem k => exact ⟨rem_ww nd k, (hl k).symm, fun p hp => hb p (List.mem_filter.mp hp).1, rem_nd nd _⟩
  | add k x =>
    simp only [dstp, stp, lk_isort nd]
    cases e : lkO l k with
    | none => exact ⟨by simp only, by simp only, hb, nd⟩
    | some b =>
      have hm := hb (k, b) ((lk_mem_nd nd k b).mp e)
      obtain ⟨h1, h2, h3, h4⟩ := ho
      simp only at hm
      have er : rdL (b + x) = rd (b + x) := rdL_rd (by omega)
      simp only [er]
      have hr := rd_ok (b + x)
      refine ⟨put_ww nd k _, trivial, fun p hp => ?_, putI_keys k _ l nd⟩
      rcases putI_mem k _ l p hp with e | hp
      · rw [e]; exact ⟨h1, h2, hr.1, hr.2⟩
      · exact hb p hp
theorem dstp_len {l : List (Int × Int)} (o : Op) : (dstp l o).1.length ≤ l.length + 1 := by
  cases o with
  | sum a b => simp [dstp]
  | get k => simp [dstp]
  | put k v => exact putI_len k v l
  | rem k => exact Nat.le_trans (List.length_filter_le _ _) (Nat.le_succ _)
  | add k x =>
    simp only [dstp]
    cases lkO l k with
    | none => exact Nat.le_succ _
    | some b => exact putI_len _ _ l
theorem q_listD {m : Mem} {k : Nat} {kvs : List (D × D)} (h : m.get k = some (.dic kvs)) : prim .list [.loc k] m = newL m (kvs.map (·.1)) := by
  show p_list [.loc k] m = _
  simp only [p_list, p_list1, h]
theorem q_listL {m : Mem} {k : Nat} {xs : List D} (h : m.get k = some (.lst xs)) : prim .list [.loc k] m = newL m xs := by
  show p_list [.loc k] m = _
  simp only [p_list, p_list1, h]
theorem q_listT (m : Mem) (xs : List D) : prim .list [.tup xs] m = newL m xs := rfl
theorem q_sumL {m : Mem} {k : Nat} {ns : List Int} (h : m.get k = some (.lst (ns.map D.int))) : prim .sum [.loc k] m = .ok (.int ns.sum) m := by
  show p_sum [.loc k] m = _
  simp only [p_sum, lstOf_of h, mapO_int]
theorem dk_keys (l : List (Int × Int)) : (dk l).map (·.1) = l.map fun p => D.int p.1 := by
  unfold dk
  rw [List.map_map]
  rfl
theorem newL_mx (m : Mem) (os : List Ob) (u : List (Nat × Nat)) {xs : List D} (h : xs.length ≤ 1000) : newL (mx m os u) xs = .ok (.loc (m.len + os.length)) (mx m (os ++ [.lst xs]) u) := by
  rw [newL_ok h, mx_push, mx_len]
end NV

set_option Elab.async false
set_option linter.all false
set_option maxRecDepth 100000
set_option maxHeartbeats 1000000
/-! NvNest: plain theory of nests. -/
namespace NV
open PySem
inductive Ns where
  | nil | op (o : Op) (r : Ns) | part (l : Ns) (b : Bool) (r : Ns)
/-- an item -/
inductive It1 where
  | op (o : Op) | part (l : Ns) (b : Bool)
def endS (b : Bool) : Str := match b with
  | true => zs_merge
  | false => zs_abort
def Ns.Ds : Ns → List D
  | .nil => []
  | .op o r => o.D :: r.Ds
  | .part l b r => .tup [.str zs_part, .tup l.Ds, .str (endS b)] :: r.Ds
def Ns.its : Ns → List It1
  | .nil => []
  | .op o r => .op o :: r.its
  | .part l b r => .part l b :: r.its
def It1.D : It1 → D
  | .op o => o.D
  | .part l b => .tup [.str zs_part, .tup l.Ds, .str (endS b)]
def Ns.app : Ns → Ns → Ns
  | .nil, t => t
  | .op o r, t => .op o (r.app t)
  | .part l b r, t => .part l b (r.app t)
def Ns.cnt : Ns → Nat
  | .nil => 0
  | .op _ r => 1 + r.cnt
  | .part l _ r => 1 + l.cnt + r.cnt
def Ns.dep : Ns → Nat
  | .nil => 0
  | .op _ r => r.dep
  | .part l _ r => max (l.dep + 1) r.dep
def Ns.ok : Ns → Prop
  | .nil => True
  | .op o r => o.ok ∧ r.ok
  | .part l _ r => l.ok ∧ r.ok
def It1.cnt : It1 → Nat
  | .op _ => 1
  | .part l _ => 1 + l.cnt
def It1.dep : It1 → Nat
  | .op _ => 0
  | .part l _ => l.dep + 1
def It1.ok : It1 → Prop
  | .op o => o.ok
  | .part l _ => l.ok
def Ns.cs : Ns → List D
  | .nil => []
  | .op _ r => .int 1 :: r.cs
  | .part l _ r => .int (1 + l.cnt : Nat) :: r.cs
theorem app_Ds : ∀ s t : Ns, (s.app t).Ds = s.Ds ++ t.Ds
  | .nil, t => rfl
  | .op o r, t => by simp only [Ns.app, Ns.Ds, app_Ds r t, List.cons_append]
  | .part l b r, t => by simp only [Ns.app, Ns.Ds, app_Ds r t, List.cons_append]
theorem app_cnt : ∀ s t : Ns, (s.app t).cnt = s.cnt + t.cnt
  | .nil, t => by simp only [Ns.app, Ns.cnt, Nat.zero_add]
  | .op o r, t => by simp only [Ns.app, Ns.cnt, app_cnt r t]; omega
  | .part l b r, t => by simp only [Ns.app, Ns.cnt, app_cnt r t]; omega
theorem app_dep : ∀ s t : Ns, (s.app t).dep = max s.dep t.dep
  | .nil, t => by simp only [Ns.app, Ns.dep, Nat.zero_max]
  | .op o r, t => by simp only [Ns.app, Ns.dep, app_dep r t]
  | .part l b r, t => by simp only [Ns.app, Ns.dep, app_dep r t]; omega
theorem app_ok : ∀ s t : Ns, s.ok → t.ok → (s.app t).ok
  | .nil, t, _, h => h
  | .op o r, t, h, h2 => ⟨h.1, app_ok r t h.2 h2⟩
  | .part l b r, t, h, h2 => ⟨h.1, app_ok r t h.2 h2⟩
theorem its_Ds : ∀ s : Ns, s.its.map It1.D = s.Ds
  | .nil => rfl
  | .op o r => by simp only [Ns.its, Ns.Ds, List.map_cons, its_Ds r, It1.D]
  | .part l b r => by simp only [Ns.its, Ns.Ds, List.map_cons, its_Ds r, It1.D]
theorem Ds_len : ∀ s : Ns, s.Ds.length ≤ s.cnt
  | .nil => Nat.le_refl _
  | .op o r => by have := Ds_len r; simp only [Ns.Ds, Ns.cnt, List.length_cons]; omega
  | .part l b r => by have := Ds_len r; simp only [Ns.Ds, Ns.cnt, List.length_cons]; omega
theorem cs_len : ∀ s : Ns, s.cs.length = s.Ds.length
  | .nil => rfl
  | .op o r => by simp only [Ns.cs, Ns.Ds, List.length_cons, cs_len r]
  | .part l b r => by simp only [Ns.cs, Ns.Ds, List.length_cons, cs_len r]
theorem nl_Ds : ∀ s : Ns, D.nlL s.Ds = true
  | .nil => rfl
  | .op o r => by simp only [Ns.Ds, nlL_cons, nl_op, nl_Ds r, Bool.and_true]
  | .part l b r => by simp only [Ns.Ds, nlL_cons, nl_tup, nlL_nil, nl_str, nl_Ds l, nl_Ds r, Bool.and_true]
theorem nl_its : ∀ i : It1, i.D.nl = true
  | .op o => nl_op o
  | .part l b => by simp only [It1.D, nlL_cons, nl_tup, nlL_nil, nl_str, nl_Ds l, Bool.and_true]
/-- what a nest does -/
def Ns.res : Ns → List (Int × Int) → List (Int × Int) × List D
  | .nil, L => (L, [])
  | .op o r, L => (((r.res (stp L o).1)).1, (stp L o).2 :: (r.res (stp L o).1).2)
  | .part l b r, L => ((r.res (if b then (l.res L).1 else L)).1, .tup (l.res L).2 :: (r.res (if b then (l.res L).1 else L)).2)
def Ns.dres : Ns → List (Int × Int) → List (Int × Int) × List D
  | .nil, L => (L, [])
  | .op o r, L => (((r.dres (dstp L o).1)).1, (dstp L o).2 :: (r.dres (dstp L o).1).2)
  | .part l b r, L => ((r.dres (if b then (l.dres L).1 else L)).1, .tup (l.dres L).2 :: (r.dres (if b then (l.dres L).1 else L)).2)
def Ns.kept : Ns → List Op
  | .nil => []
  | .op o r => o :: r.kept
  | .part l b r => (if b then l.kept else []) ++ r.kept
theorem dres_res : ∀ (s : Ns) (l : List (Int × Int)), Good l → s.ok → isort ltP (s.dres l).1 = (s.res (isort ltP l)).1 ∧ (s.dres l).2 = (s.res (isort ltP l)).2 ∧ Good (s.dres l).1
  | .nil, l, h, _ => ⟨rfl, rfl, h⟩
  | .op o r, l, h, ho => by
    obtain ⟨a, b, c⟩ := dstp_stp h ho.1
    obtain ⟨d, e, f⟩ := dres_res r (dstp l o).1 c ho.2
    rw [a] at d e
    exact ⟨d, by simp only [Ns.dres, Ns.res, b, e], f⟩
  | .part q true r, l, h, ho => by
    obtain ⟨a, b, c⟩ := dres_res q l h ho.1
    obtain ⟨d, e, f⟩ := dres_res r (q.dres l).1 c ho.2
    rw [a] at d e
    exact ⟨d, by simp only [Ns.dres, Ns.res, b, if_true, e], f⟩
  | .part q false r, l, h, ho => by
    obtain ⟨a, b, c⟩ := dres_res q l h ho.1
    obtain ⟨d, e, f⟩ := dres_res r l h ho.2
    exact ⟨d, by simp only [Ns.dres, Ns.res, b, Bool.false_eq_true, if_false, e], f⟩
theorem dres_len : ∀ (s : Ns) (l : List (Int × Int)), (s.dres l).1.length ≤ l.length + s.cnt
  | .nil, l => Nat.le_refl _
  | .op o r, l => by
    have a := dstp_len (l := l) o
    have b := dres_len r (dstp l o).1
    simp only [Ns.dres, Ns.cnt]
    omega
  | .part q true r, l => by
    have a := dres_len q l
    have b := dres_len r (q.dres l).1
    simp only [Ns.dres, Ns.cnt, if_true]
    omega
  | .part q false r, l => by
    have b := dres_len r l
    simp only [Ns.dres, Ns.cnt, Bool.false_eq_true, if_false]
    omega
theorem res_can : ∀ (s : Ns) (L : List (Int × Int)), Can L → s.ok → Can (s.res L).1
  | .nil, L, h, _ => h
  | .op o r, L, h, ho => res_can r _ (stp_can h ho.1) ho.2
  | .part q true r, L, h, ho => res_can r _ (res_can q L h ho.1) ho.2
  | .part q false r, L, h, ho => res_can r _ h ho.2
def foldO : List Op → List (Int × Int) → List (Int × Int)
  | [], L => L
  | o :: os, L => foldO os (stp L o).1
theorem foldO_app : ∀ (a b : List Op) (L : List (Int × Int)), foldO (a ++ b) L = foldO b (foldO a L)
  | [], b, L => rfl
  | o :: a, b, L => by simp only [List.cons_append, foldO, foldO_app a b]
/-- the kept operations do the same to the records -/
theorem kept_res : ∀ (s : Ns) (L : List (Int × Int)), foldO s.kept L = (s.res L).1
  | .nil, L => rfl
  | .op o r, L => by simp only [Ns.kept, foldO, Ns.res, kept_res r]
  | .part q true r, L => by simp only [Ns.kept, if_true, foldO_app, Ns.res, kept_res q, kept_res r]
  | .part q false r, L => by simp only [Ns.kept, Bool.false_eq_true, if_false, List.nil_append, Ns.res, kept_res r]
theorem kept_ok : ∀ (s : Ns), s.ok → ∀ o ∈ s.kept, o.ok
  | .nil, _, o, h => by cases h
  | .op p r, hs, o, h => by
    rcases List.mem_cons.mp h with e | h
    · rw [e]; exact hs.1
    · exact kept_ok r hs.2 o h
  | .part q true r, hs, o, h => by
    simp only [Ns.kept, if_true] at h
    rcases List.mem_append.mp h with h | h
    · exact kept_ok q hs.1 o h
    · exact kept_ok r hs.2 o h
  | .part q false r, hs, o, h => by
    simp only [Ns.kept, Bool.false_eq_true, if_false, List.nil_append] at h
    exact kept_ok r hs.2 o h
theorem kept_len : ∀ (s : Ns), s.kept.length ≤ s.cnt
  | .nil => Nat.le_refl _
  | .op p r => by have := kept_len r; simp only [Ns.kept, Ns.cnt, List.length_cons]; omega
  | .part q true r => by have := kept_len q; have := kept_len r; simp only [Ns.kept, Ns.cnt, if_true, List.length_append]; omega
  | .part q false r => by have := kept_len r; simp only [Ns.kept, Ns.cnt, Bool.false_eq_true, if_false, List.nil_append]; omega
/-- the results are small -/
theorem res_len : ∀ (s : Ns) (L : List (Int × Int)), (s.res L).2.length ≤ s.cnt
  | .nil, L => Nat.le_refl _
  | .op o r, L => by have := res_len r (stp L o).1; simp only [Ns.res, Ns.cnt, List.length_cons]; omega
  | .part q b r, L => by have := res_len r (if b then (q.res L).1 else L); simp only [Ns.res, Ns.cnt, List.length_cons]; omega
theorem res_nl : ∀ (s : Ns) (L : List (Int × Int)), D.nlL (s.res L).2 = true
  | .nil, L => rfl
  | .op o r, L => by simp only [Ns.res, nlL_cons, nl_stp, res_nl r, Bool.and_true]
  | .part q b r, L => by simp only [Ns.res, nlL_cons, nl_tup, res_nl q, res_nl r, Bool.and_true]
theorem res_sm : ∀ (s : Ns) (L : List (Int × Int)), Can L → s.ok → smBs (s.res L).2 = true ∧ dpDs (s.res L).2 ≤ s.dep ∧ bkDs (s.res L).2 ≤ 2 * s.cnt
  | .nil, L, _, _ => by simp [Ns.res, smBs, dpDs, bkDs]
  | .op o r, L, h, ho => by
    obtain ⟨a, b, c⟩ := res_sm r _ (stp_can h ho.1) ho.2
    obtain ⟨d, e, f⟩ := res_small h o
    simp only [Ns.res, smBs, dpDs, bkDs, Ns.dep, Ns.cnt, a, d, e, f, Bool.and_true, true_and]
    omega
  | .part q t r, L, h, ho => by
    have hc : Can (if t then (q.res L).1 else L) := by
      cases t
      · exact h
      · exact res_can q L h ho.1
    obtain ⟨a, b, c⟩ := res_sm r _ hc ho.2
    obtain ⟨d, e, f⟩ := res_sm q L h ho.1
    simp only [Ns.res, smBs, dpDs, bkDs, smB, dpD, bkD, Ns.dep, Ns.cnt, a, d, Bool.and_true, true_and]
    omega
/-! ### a value is itself -/
mutual
def ccB : D → Bool
  | .non => true
  | .bl _ => true
  | .int _ => true
  | .str s => PyData.strOk s
  | .tup xs => ccBs xs
  | _ => false
def ccBs : List D → Bool
  | [] => true
  | x :: xs => ccB x && ccBs xs
end
mutual
theorem toPy_cc (m : Mem) : ∀ (f : Nat) (d : D), ccB d = true → dpD d < f → ∃ p, toPy f m d = some p ∧ p.canLay0 = true
  | 0, _, _, h => absurd h (Nat.not_lt_zero _)
  | f + 1, .non, _, _ => ⟨.none, rfl, rfl⟩
  | f + 1, .bl b, _, _ => ⟨.bool b, rfl, rfl⟩
  | f + 1, .int i, _, _ => ⟨.int i, rfl, rfl⟩
  | f + 1, .str s, h, _ => by
    simp only [ccB] at h
    exact ⟨.str s, by simp only [toPy, h, if_true], by simpa only [PyData.canLay0] using h⟩
  | f + 1, .tup xs, h, hd => by
    simp only [ccB] at h
    simp only [dpD] at hd
    obtain ⟨ps, h1, h2⟩ := toPys_cc m f xs h (by omega)
    exact ⟨.tuple ps, by simp only [toPy, h1], by simpa only [PyData.canLay0] using h2⟩
  | f + 1, .loc _, h, _ => by simp [ccB] at h
  | f + 1, .fn _, h, _ => by simp [ccB] at h
  | f + 1, .thk, h, _ => by simp [ccB] at h
  | f + 1, .er _ _, h, _ => by simp [ccB] at h
  | f + 1, .rol _, h, _ => by simp [ccB] at h
theorem toPys_cc (m : Mem) : ∀ (f : Nat) (xs : List D), ccBs xs = true → dpDs xs < f → ∃ ps, mapO (toPy f m) xs = some ps ∧ PyData.canLayAll0 ps = true
  | _, [], _, _ => ⟨[], rfl, rfl⟩
  | f, x :: xs, h, hd => by
    simp only [ccBs, Bool.and_eq_true] at h
    simp only [dpDs] at hd
    obtain ⟨p, a1, a2⟩ := toPy_cc m f x h.1 (by omega)
    obtain ⟨ps, b1, b2⟩ := toPys_cc m f xs h.2 (by omega)
    exact ⟨p :: ps, by simp only [mapO, a1, b1], by simp only [PyData.canLayAll0, a2, b2, Bool.and_true]⟩
end
theorem q_neSelf (xs : List D) (m : Mem) (h : ccBs xs = true) (hd : dpDs xs < 38) : prim .ne [.tup xs, .tup xs] m = .ok (.bl false) m := by
  obtain ⟨p, a1, a2⟩ := toPy_cc m 40 (.tup xs) (by simpa only [ccB] using h) (by simp only [dpD]; omega)
  show p_ne [.tup xs, .tup xs] m = _
  simp only [p_ne, nilEq, eqD, a1, SeqAt.eqv_refl p a2, okB]
  rfl
theorem cc_op (o : Op) : ccB o.D = true ∧ dpD o.D = 1 := by cases o <;> exact ⟨by simp only [Op.D, ccB, ccBs, ok_zs_put, ok_zs_add, ok_zs_get, ok_zs_remove, ok_zs_sum, Bool.and_true], rfl⟩
theorem cc_ops : ∀ os : List Op, ccBs (os.map Op.D) = true ∧ dpDs (os.map Op.D) ≤ 1
  | [] => ⟨rfl, Nat.zero_le _⟩
  | o :: os => by
    obtain ⟨a, b⟩ := cc_op o
    obtain ⟨c, d⟩ := cc_ops os
    simp only [List.map_cons, ccBs, dpDs, a, b, c, Bool.and_true, true_and]
    omega
theorem cc_pts : ∀ l : List (Int × Int), ccBs (l.map pt) = true ∧ dpDs (l.map pt) ≤ 1
  | [] => ⟨rfl, Nat.zero_le _⟩
  | p :: l => by
    obtain ⟨c, d⟩ := cc_pts l
    simp only [List.map_cons, pt, ccBs, ccB, dpDs, dpD, c, Bool.and_true, true_and]
    omega
/-! ### the work list -/
def wsum : List (It1 × Nat) → Nat
  | [] => 0
  | p :: r => p.1.cnt + wsum r
theorem wsum_app : ∀ a b : List (It1 × Nat), wsum (a ++ b) = wsum a + wsum b
  | [], b => by simp [wsum]
  | p :: a, b => by simp only [List.cons_append, wsum, wsum_app a b]; omega
theorem wsum_its (d : Nat) : ∀ l : Ns, wsum (l.its.map fun i => (i, d)) = l.cnt
  | .nil => rfl
  | .op o r => by simp only [Ns.its, List.map_cons, wsum, wsum_its d r, It1.cnt, Ns.cnt]
  | .part q b r => by simp only [Ns.its, List.map_cons, wsum, wsum_its d r, It1.cnt, Ns.cnt]
theorem its_in : ∀ (l : Ns), l.ok → ∀ i ∈ l.its, i.ok ∧ i.dep ≤ l.dep ∧ i.cnt ≤ l.cnt
  | .nil, _, i, h => by cases h
  | .op o r, hl, i, h => by
    rcases List.mem_cons.mp h with e | h
    · rw [e]
      exact ⟨hl.1, Nat.zero_le _, by simp only [It1.cnt, Ns.cnt]; omega⟩
    · obtain ⟨a, b, c⟩ := its_in r hl.2 i h
      exact ⟨a, b, by simp only [Ns.cnt]; omega⟩
  | .part q t r, hl, i, h => by
    rcases List.mem_cons.mp h with e | h
    · rw [e]
      exact ⟨hl.1, by simp only [It1.dep, Ns.dep]; omega, by simp only [It1.cnt, Ns.cnt]; omega⟩
    · obtain ⟨a, b, c⟩ := its_in r hl.2 i h
      exact ⟨a, by simp only [Ns.dep]; omega, by simp only [Ns.cnt]; omega⟩
def en (p : It1 × Nat) : D := .tup [p.1.D, .int p.2]
theorem en_nl : ∀ W : List (It1 × Nat), D.nlL (W.map en) = true
  | [] => rfl
  | p :: W => by simp only [List.map_cons, nlL_cons, en, nl_tup, nl_its, nl_int, nlL_nil, en_nl W, Bool.and_true]
theorem en_its (d : Nat) (l : Ns) : (l.Ds.filterMap fun x => some (.tup [x, .int d])) = (l.its.map fun i => (i, d)).map en := by
  rw [← its_Ds, List.filterMap_map]
  induction l.its with
  | nil => rfl
  | cons i r ih => simp only [List.filterMap_cons, Function.comp, List.map_cons, en, ih]
theorem its_len (l : Ns) : l.its.length ≤ l.cnt := by
  have := Ds_len l
  rw [← its_Ds, List.length_map] at this
  exact this
theorem wsum_len : ∀ W : List (It1 × Nat), W.length ≤ wsum W
  | [] => Nat.le_refl _
  | p :: W => by
    have := wsum_len W
    have : 1 ≤ p.1.cnt := by cases p.1 <;> simp only [It1.cnt] <;> omega
    simp only [List.length_cons, wsum]
    omega
/-- a list against the empty one, made anew -/
theorem q_neNil {M : Mem} {a : Nat} {xs : List D} (h : M.get a = some (.lst xs)) : prim .ne [.loc a, .loc M.len] (M.push (.lst [])) = .ok (.bl (!xs.isEmpty)) (M.push (.lst [])) := by
  have g : (M.push (.lst [])).get a = some (.lst xs) := by
    rw [push_mx]
    exact mx_old h _ _
  show p_ne [.loc a, .loc M.len] (M.push (.lst [])) = _
  simp only [p_ne, nilEq, g, push_get, List.isEmpty_nil, Bool.or_true, Bool.and_true, if_true]
theorem q_pop0 {m : Mem} {os : List Ob} {u : List (Nat × Nat)} {xs : List D} {x : D} : prim .pop0 [.loc m.len] (mx m (.lst (xs ++ [x]) :: os) u) = .ok x (mx m (.lst xs :: os) u) := by
  show p_pop0 [.loc m.len] (mx m (.lst (xs ++ [x]) :: os) u) = _
  have e := put_mx m (.lst (xs ++ [x]) :: os) u 0 (.lst xs)
  rw [Nat.add_zero] at e
  simp only [p_pop0, mx_get0, List.getElem?_cons_zero, List.getLast?_append, List.getLast?_singleton, Option.some_or, List.dropLast_concat, e, List.set_cons_zero]
theorem aug_mx {m : Mem} {os : List Ob} {xs ys : List D} (h : xs.length + ys.length ≤ 1000) (hy : D.nlL ys = true) : augP .add (.loc m.len) (.loc (m.len + (os.length + 1))) (mx m (.lst xs :: (os ++ [.lst ys])) []) = .ok (.loc m.len) (mx m (.lst (xs ++ ys) :: (os ++ [.lst ys])) []) := by
  have g1 : (mx m (.lst xs :: (os ++ [.lst ys])) []).get m.len = some (.lst xs) := mx_get0 _ _ _
  have g2 : (mx m (.lst xs :: (os ++ [.lst ys])) []).get (m.len + (os.length + 1)) = some (.lst ys) := by
    rw [mx_get]
    simp
  have e := put_mx m (.lst xs :: (os ++ [.lst ys])) [] 0 (.lst (xs ++ ys))
  rw [Nat.add_zero] at e
  have hz : xs.length + ys.length ≤ sizeLine := Nat.le_trans h (by decide)
  simp only [augP, g1, g2, hz, if_true, hy, e, List.set_cons_zero]
theorem q_app {m : Mem} {os : List Ob} {u : List (Nat × Nat)} {xs : List D} {y : D} (h : xs.length < 1000) (hy : y.nl = true) : prim .append [.loc m.len, y] (mx m (.lst xs :: os) u) = .ok .non (mx m (.lst (xs ++ [y]) :: os) u) := by
  have e := put_mx m (.lst xs :: os) u 0 (.lst (xs ++ [y]))
  rw [Nat.add_zero] at e
  have hz : xs.length < sizeLine := Nat.lt_of_lt_of_le h (by decide)
  show p_append [.loc m.len, y] (mx m (.lst xs :: os) u) = _
  simp only [p_append, mx_get0, List.getElem?_cons_zero, hz, decide_true, if_true, hy, e, List.set_cons_zero]
/-- a comprehension whose values are told -/
theorem lc_vals {C : Ct} {own : List Nat} {tg : TG} {e0 : CE} {ts : List CT} {e : CE} {s : Sl} {m m1 : Mem} {d : D} {xs ys : List D} (he : evE C e0 s m = .ok d m1) (hd : seqOf m1 d = some xs) (hl : ys.length = xs.length)
    (ht : ∀ p ∈ xs.zip ys, turnE tg own s (evTs C ts) (evE C e) p.1 m1 = .ok (some p.2) m1) (hfu : xs.length < C.fu) : evE C (.lc own tg .seq [e0] ts e) s m = newL m1 ys := by
  let h : D → Option D := fun x => match turnE tg own s (evTs C ts) (evE C e) x m1 with
    | .ok o _ => o
    | _ => none
  have hz : ∀ p ∈ xs.zip ys, h p.1 = some p.2 := fun p hp => by
    show (match turnE tg own s (evTs C ts) (evE C e) p.1 m1 with
      | .ok o _ => o
      | _ => none) = _
    rw [ht p hp]
  have key : ∀ (xs ys : List D), ys.length = xs.length → (∀ p ∈ xs.zip ys, h p.1 = some p.2) → xs.filterMap h = ys := by
    intro xs
    induction xs with
    | nil =>
      intro ys e _
      cases ys with
      | nil => rfl
      | cons y ys => cases e
    | cons x xs ih =>
      intro ys e hh
      cases ys with
      | nil => cases e
      | cons y ys =>
        rw [List.filterMap_cons, hh (x, y) (by simp)]
        simp only
        rw [ih ys (by simpa using e) fun p hp => hh p (by simp [hp])]
  rw [lc_gen (h := h) he hd (fun x hx => ?_) hfu, key xs ys hl hz]
  obtain ⟨i, hi, ex⟩ := List.mem_iff_getElem.mp hx
  have hi2 : i < ys.length := by omega
  have hm : (x, ys[i]) ∈ xs.zip ys := by
    rw [← ex]
    exact List.mem_iff_getElem.mpr ⟨i, by rw [List.length_zip]; omega, by rw [List.getElem_zip]⟩
  rw [hz _ hm]
  exact ht _ hm
theorem zip_cs : ∀ (s : Ns) (p : D × D), p ∈ s.Ds.zip s.cs → (∃ o : Op, p = (o.D, .int 1)) ∨ ∃ (l : Ns) (b : Bool), p = (.tup [.str zs_part, .tup l.Ds, .str (endS b)], .int (1 + l.cnt : Nat)) ∧ l.dep < s.dep ∧ l.cnt < s.cnt
  | .nil, p, h => by cases h
  | .op o r, p, h => by
    simp only [Ns.Ds, Ns.cs, List.zip_cons_cons] at h
    rcases List.mem_cons.mp h with e | h
    · exact .inl ⟨o, e⟩
    · rcases zip_cs r p h with z | ⟨l, b, e, h1, h2⟩
      · exact .inl z
      · exact .inr ⟨l, b, e, h1, by simp only [Ns.cnt]; omega⟩
  | .part q t r, p, h => by
    simp only [Ns.Ds, Ns.cs, List.zip_cons_cons] at h
    rcases List.mem_cons.mp h with e | h
    · exact .inr ⟨q, t, e, by simp only [Ns.dep]; omega, by simp only [Ns.cnt]; omega⟩
    · rcases zip_cs r p h with z | ⟨l, b, e, h1, h2⟩
      · exact .inl z
      · exact .inr ⟨l, b, e, by simp only [Ns.dep]; omega, by simp only [Ns.cnt]; omega⟩
theorem cs_sum : ∀ s : Ns, ∃ ns : List Int, s.cs = ns.map D.int ∧ ns.sum = s.cnt
  | .nil => ⟨[], rfl, rfl⟩
  | .op o r => by
    obtain ⟨ns, a, b⟩ := cs_sum r
    exact ⟨1 :: ns, by simp only [Ns.cs, a, List.map_cons], by simp only [List.sum_cons, b, Ns.cnt]; omega⟩
  | .part q t r => by
    obtain ⟨ns, a, b⟩ := cs_sum r
    exact ⟨((1 + q.cnt : Nat) : Int) :: ns, by simp only [Ns.cs, a, List.map_cons], by simp only [List.sum_cons, b, Ns.cnt]; omega⟩
theorem evSs_app (C : Ct) : ∀ (a b : List CS) (s : Sl) (m : Mem), evSs C (a ++ b) s m = (evSs C a s m).and (evSs C b)
  | [], b, s, m => by
    simp only [List.nil_append, evSs, sPass]
    rfl
  | c :: a, b, s, m => by
    simp only [List.cons_append, evSs, sSeq]
    cases evS C c s m with
    | next s1 m1 =>
      simp only [Rt.and]
      exact evSs_app C a b s1 m1
    | _ => rfl
theorem evSs_cons (C : Ct) (c : CS) (cs : List CS) (s : Sl) (m : Mem) : evSs C (c :: cs) s m = (evS C c s m).and (evSs C cs) := by simp only [evSs, sSeq]
theorem and_next (s : Sl) (m : Mem) (f : Sl → Mem → Rt) : (Rt.next s m).and f = f s m := rfl
end NV

set_option linter.all false
set_option maxRecDepth 100000
namespace T02
open NV PySem
abbrev z14 : Str := ⟨#[]⟩
theorem ok_z14 : PyData.strOk z14 = true := by decide +kernel
/-- is_whole -/
def f0 : Fd := ⟨3, 3, [.ret (.ofT (.and [.val (.pr .isInt [.var 0]), .not (.val (.pr .isBool [.var 0])), .val (.chain .le .le (.var 1) (.var 0) (.var 2))]))]⟩
/-- is_tuple_of -/
def f1 : Fd := ⟨3, 3, [.ret (.ofT (.and [.val (.pr .isTuple [.var 0]), .val (.chain .le .le (.var 1) (.pr .len [.var 0]) (.var 2))]))]⟩
/-- is_key -/
def f2 : Fd := ⟨1, 1, [.ret (.call 0 [.var 0, .int 0, .pr .sub [.glo 0, .int 1]])]⟩
/-- is_worth -/
def f3 : Fd := ⟨1, 1, [.ret (.call 0 [.var 0, .pr .neg [.glo 1], .glo 1])]⟩
def x4_0 : CE := .ofT (.and [.val (.call 1 [.var 1, .int 2, .int 2]), .val (.call 2 [.pr .idx [.var 1, .int 0]]), .val (.call 3 [.pr .idx [.var 1, .int 1]])])
def c4_1 : CE := .lc [1] (.nm 1) .seq [.var 0] [] (x4_0)
def x4_2 : CE := .pr .lt [.pr .idx [.var 1, .int 0], .pr .idx [.var 2, .int 0]]
def c4_3 : CE := .lc [1, 2] (.tp [.nm 1, .nm 2]) .zip [.var 0, .sl (.var 0) (.at (.int 1)) (.non)] [] (x4_2)
/-- fits_records -/
def f4 : Fd := ⟨1, 3, [.ife (.not (.val (.call 1 [.var 0, .int 0, .glo 0]))) [.ret (.bl false)] [], .ife (.not (.val (.pr .all [c4_1]))) [.ret (.bl false)] [], .ret (.pr .all [c4_3])]⟩
/-- fits_operation -/
def f5 : Fd := ⟨1, 1, [.ife (.or [.not (.val (.call 1 [.var 0, .int 2, .int 3])), .not (.val (.pr .isStr [.pr .idx [.var 0, .int 0]])), .not (.val (.call 2 [.pr .idx [.var 0, .int 1]]))]) [.ret (.bl false)] [], .ife (.val (.pr .isIn [.pr .idx [.var 0, .int 0], .tup [.str zs_get, .str zs_remove]])) [.ret (.pr .eq [.pr .len [.var 0], .int 2])] [], .ife (.val (.pr .ne [.pr .len [.var 0], .int 3])) [.ret (.bl false)] [], .ife (.val (.pr .isIn [.pr .idx [.var 0, .int 0], .tup [.str zs_put, .str zs_add]])) [.ret (.call 3 [.pr .idx [.var 0, .int 2]])] [], .ret (.ofT (.and [.val (.pr .eq [.pr .idx [.var 0, .int 0], .str zs_sum]), .val (.call 2 [.pr .idx [.var 0, .int 2]]), .val (.pr .le [.pr .idx [.var 0, .int 1], .pr .idx [.var 0, .int 2]])]))]⟩
/-- rounded -/
def f6 : Fd := ⟨1, 1, [.ret (.pr .sub [.pr .mod [.pr .add [.var 0, .glo 1], .glo 2], .glo 1])]⟩
def b7_0 : List CS := [.ife (.val (.pr .eq [.var 2, .var 1])) [.ret (.var 3)] []]
/-- worth_in -/
def f7 : Fd := ⟨2, 4, [.for (.tp [.nm 2, .nm 3]) .seq [.var 0] b7_0, .ret (.non)]⟩
def t8_0 : List CT := [.val (.pr .ne [.pr .idx [.var 4, .int 0], .var 1])]
def x8_1 : CE := .var 4
def c8_2 : CE := .lc [4] (.nm 4) .seq [.var 0] t8_0 (x8_1)
/-- with_worth -/
def f8 : Fd := ⟨3, 5, [.asg (.nm 3) (c8_2), .ret (.pr .tuple [.pr .sorted [.pr .add [.var 3, .ite (.val (.pr .notN [.var 2, .non])) (.lst [.tup [.var 1, .var 2]]) (.lst [])]]])]⟩
def t9_0 : List CT := [.val (.chain .le .le (.var 3) (.var 4) (.pr .idx [.var 1, .int 2]))]
def x9_1 : CE := .var 5
def c9_2 : CE := .lc [4, 5] (.tp [.nm 4, .nm 5]) .seq [.var 0] t9_0 (x9_1)
/-- done_on -/
def f9 : Fd := ⟨2, 7, [.asg (.tp [.nm 2, .nm 3]) (.tup [.pr .idx [.var 1, .int 0], .pr .idx [.var 1, .int 1]]), .ife (.val (.pr .eq [.var 2, .str zs_sum])) [.ret (.tup [.var 0, .pr .sum [c9_2]])] [], .asg (.nm 6) (.call 7 [.var 0, .var 3]), .ife (.val (.pr .eq [.var 2, .str zs_get])) [.ret (.tup [.var 0, .var 6])] [], .ife (.val (.pr .eq [.var 2, .str zs_put])) [.ret (.tup [.call 8 [.var 0, .var 3, .pr .idx [.var 1, .int 2]], .var 6])] [], .ife (.val (.pr .eq [.var 2, .str zs_remove])) [.ret (.tup [.call 8 [.var 0, .var 3, .non], .var 6])] [], .ife (.val (.pr .isN [.var 6, .non])) [.ret (.tup [.var 0, .bl false])] [], .ret (.tup [.call 8 [.var 0, .var 3, .call 6 [.pr .add [.var 6, .pr .idx [.var 1, .int 2]]]], .bl true])]⟩
/-- need_records -/
def f10 : Fd := ⟨1, 1, [.ife (.not (.val (.call 4 [.var 0]))) [.rais 1 [.str zs_not_records]] []]⟩
/-- need_operation -/
def f11 : Fd := ⟨1, 1, [.ife (.not (.val (.call 5 [.var 0]))) [.rais 2 [.str zs_not_an_operation]] []]⟩
/-- do_operation -/
def f12 : Fd := ⟨2, 2, [.expr (.call 10 [.var 0]), .expr (.call 11 [.var 1]), .ret (.call 9 [.var 0, .var 1])]⟩
/-- is_part -/
def f13 : Fd := ⟨1, 1, [.ret (.pr .eq [.pr .idx [.var 0, .int 0], .str zs_part])]⟩
/-- fits_item -/
def f14 : Fd := ⟨1, 1, [.ife (.and [.val (.call 1 [.var 0, .int 3, .int 3]), .val (.pr .isStr [.pr .idx [.var 0, .int 0]]), .val (.pr .eq [.pr .idx [.var 0, .int 0], .str zs_part])]) [.ret (.ofT (.and [.val (.call 1 [.pr .idx [.var 0, .int 1], .int 0, .glo 3]), .val (.pr .isStr [.pr .idx [.var 0, .int 2]]), .val (.pr .isIn [.pr .idx [.var 0, .int 2], .glo 5])]))] [], .ret (.call 5 [.var 0])]⟩
def x15_0 : CE := .tup [.var 3, .int 1]
def c15_1 : CE := .lc [3] (.nm 3) .seq [.var 0] [] (x15_0)
def x15_2 : CE := .tup [.var 5, .pr .add [.var 4, .int 1]]
def c15_3 : CE := .lc [5] (.nm 5) .seq [.pr .idx [.var 3, .int 1]] [] (x15_2)
def b15_4 : List CS := [.asg (.tp [.nm 3, .nm 4]) (.me .pop0 (.var 1) []), .asg (.nm 2) (.pr .add [.var 2, .int 1]), .ife (.or [.val (.pr .gt [.var 2, .glo 3]), .not (.val (.call 14 [.var 3]))]) [.ret (.bl false)] [], .ife (.val (.call 13 [.var 3])) [.ife (.val (.pr .eq [.var 4, .glo 4])) [.ret (.bl false)] [], .aug 1 .add (c15_3)] []]
/-- fits_nest -/
def f15 : Fd := ⟨1, 6, [.ife (.not (.val (.call 1 [.var 0, .int 0, .glo 3]))) [.ret (.bl false)] [], .asg (.tp [.nm 1, .nm 2]) (.tup [c15_1, .int 0]), .whl (.val (.pr .ne [.var 1, .lst []])) b15_4, .ret (.bl true)]⟩
def b16_0 : List CS := [.ife (.val (.call 13 [.var 3])) [.asg (.tp [.nm 4, .nm 5]) (.call 16 [.var 0, .pr .idx [.var 3, .int 1]]), .expr (.me .append (.var 2) [.var 5]), .asg (.nm 0) (.ite (.val (.pr .eq [.pr .idx [.var 3, .int 2], .str zs_merge])) (.var 4) (.var 0))] [.asg (.tp [.nm 0, .nm 6]) (.call 9 [.var 0, .var 3]), .expr (.me .append (.var 2) [.var 6])]]
/-- results_in -/
def f16 : Fd := ⟨2, 7, [.asg (.nm 2) (.lst []), .for (.nm 3) .seq [.var 1] b16_0, .ret (.tup [.var 0, .pr .tuple [.var 2]])]⟩
def b17_0 : List CS := [.ife (.not (.val (.call 13 [.var 2]))) [.expr (.me .append (.var 1) [.var 2])] [.ife (.val (.pr .eq [.pr .idx [.var 2, .int 2], .str zs_merge])) [.aug 1 .add (.call 17 [.pr .idx [.var 2, .int 1]])] []]]
/-- kept_in -/
def f17 : Fd := ⟨1, 3, [.asg (.nm 1) (.lst []), .for (.nm 2) .seq [.var 0] b17_0, .ret (.var 1)]⟩
/-- need_nest -/
def f18 : Fd := ⟨1, 1, [.ife (.not (.val (.call 15 [.var 0]))) [.rais 3 [.str zs_not_a_nest]] []]⟩
/-- is_nest -/
def f19 : Fd := ⟨1, 1, [.ret (.call 15 [.var 0])]⟩
/-- do_nest -/
def f20 : Fd := ⟨2, 2, [.expr (.call 10 [.var 0]), .expr (.call 18 [.var 1]), .ret (.call 16 [.var 0, .var 1])]⟩
/-- kept_operations -/
def f21 : Fd := ⟨1, 1, [.expr (.call 18 [.var 0]), .ret (.pr .tuple [.call 17 [.var 0]])]⟩
/-- _law_cup -/
def f22 : Fd := ⟨1, 2, [.asg (.nm 1) (.pr .abs [.pr .idx [.pr .add [.pr .list [.var 0], .lst [.int 0]], .int 0]]), .ret (.lst [.ite (.val (.pr .ge [.var 1, .pr .pow [.int 10, .int 18]])) (.pr .fdiv [.var 1, .int 101]) (.int 0), .pr .add [.pr .mod [.pr .int [.pr .add [.pr .mul [.var 1, .int 317], .int 3301]], .int 2077503067], .int 197]])]⟩
/-- _law_roll -/
def f23 : Fd := ⟨2, 4, [.ife (.val (.pr .gt [.pr .idx [.var 0, .int 0], .int 0])) [.asg (.nm 2) (.pr .mod [.pr .int [.pr .idx [.var 0, .int 0]], .var 1]), .setIx (.var 0) (.int 0) (.pr .fdiv [.pr .idx [.var 0, .int 0], .var 1]), .ret (.var 2)] [], .setIx (.var 0) (.int 1) (.pr .mod [.pr .int [.pr .add [.pr .mul [.pr .idx [.var 0, .int 1], .int 31121], .int 8069]], .int 2147483353]), .asg (.nm 3) (.pr .mod [.pr .int [.pr .mul [.pr .idx [.var 0, .int 1], .pr .add [.pr .idx [.var 0, .int 1], .int 269]]], .int 2147483587]), .ret (.pr .mod [.pr .int [.pr .fdiv [.var 3, .int 859]], .var 1])]⟩
/-- _law_some -/
def f24 : Fd := ⟨2, 2, [.ret (.pr .idx [.var 1, .call 23 [.var 0, .pr .len [.var 1]]])]⟩
def t25_0 : List CT := [.val (.chain .le .le (.var 3) (.var 5) (.pr .idx [.var 1, .int 2]))]
def x25_1 : CE := .pr .idx [.var 4, .var 5]
def c25_2 : CE := .lc [5] (.nm 5) .seq [.pr .list [.var 4]] t25_0 (x25_1)
def t25_3 : List CT := [.val (.pr .ne [.var 5, .var 3])]
def x25_4 : CE := .tup [.var 5, .var 7]
def c25_5 : CE := .lc [5, 7] (.tp [.nm 5, .nm 7]) .seq [.pr .lstItems [.var 4]] t25_3 (x25_4)
/-- _law_done -/
def f25 : Fd := ⟨2, 9, [.asg (.tp [.nm 2, .nm 3, .nm 4]) (.tup [.pr .idx [.var 1, .int 0], .pr .idx [.var 1, .int 1], .pr .dict [.pr .lstItems [.var 0]]]), .ife (.val (.pr .eq [.var 2, .str zs_sum])) [.ret (.tup [.var 4, .pr .sum [c25_2]])] [], .asg (.nm 6) (.me .get2 (.var 4) [.var 3, .non]), .ife (.val (.pr .eq [.var 2, .str zs_put])) [.setIx (.var 4) (.var 3) (.pr .idx [.var 1, .int 2])] [], .ife (.val (.pr .eq [.var 2, .str zs_remove])) [.asg (.nm 4) (.pr .dict [c25_5])] [], .ife (.val (.pr .ne [.var 2, .str zs_add])) [.ret (.tup [.var 4, .var 6])] [], .ife (.val (.pr .notN [.var 6, .non])) [.asg (.nm 8) (.pr .add [.var 6, .pr .idx [.var 1, .int 2]]), .setIx (.var 4) (.var 3) (.ite (.val (.pr .gt [.var 8, .pr .pow [.int 10, .int 9]])) (.pr .sub [.var 8, .int 2000000001]) (.ite (.val (.pr .lt [.var 8, .pr .neg [.pr .pow [.int 10, .int 9]]])) (.pr .add [.var 8, .int 2000000001]) (.var 8)))] [], .ret (.tup [.var 4, .pr .notN [.var 6, .non]])]⟩
/-- _law_told -/
def f26 : Fd := ⟨1, 1, [.ret (.pr .tuple [.pr .sorted [.pr .lstItems [.var 0]]])]⟩
def b27_0 : List CS := [.ife (.val (.pr .eq [.pr .idx [.var 3, .int 0], .str zs_part])) [.asg (.tp [.nm 4, .nm 5]) (.call 27 [.var 0, .pr .idx [.var 3, .int 1]]), .asg (.tp [.nm 0, .nm 2]) (.tup [.ite (.val (.pr .eq [.pr .idx [.var 3, .int 2], .str zs_merge])) (.var 4) (.var 0), .pr .add [.var 2, .tup [.var 5]]])] [.asg (.tp [.nm 0, .nm 6]) (.call 25 [.var 0, .var 3]), .asg (.nm 2) (.pr .add [.var 2, .tup [.var 6]])]]
/-- _law_nest_done -/
def f27 : Fd := ⟨2, 7, [.asg (.nm 2) (.tup []), .for (.nm 3) .seq [.var 1] b27_0, .ret (.tup [.var 0, .var 2])]⟩
/-- _law_operation -/
def f28 : Fd := ⟨2, 4, [.asg (.tp [.nm 2, .nm 3]) (.tup [.call 23 [.var 0, .var 1], .call 23 [.var 0, .int 10]]), .ife (.val (.pr .lt [.var 3, .int 3])) [.ret (.tup [.str zs_put, .var 2, .call 24 [.var 0, .lst [.int 0, .int 1, .int 2, .int 7, .pr .neg [.int 3], .pr .pow [.int 10, .int 9], .pr .neg [.pr .pow [.int 10, .int 9]], .int 40]]])] [], .ife (.val (.pr .lt [.var 3, .int 5])) [.ret (.tup [.str zs_add, .var 2, .call 24 [.var 0, .lst [.int 1, .int 2, .pr .neg [.int 5], .pr .pow [.int 10, .int 9], .pr .neg [.pr .pow [.int 10, .int 9]], .int 0]]])] [], .ife (.val (.pr .lt [.var 3, .int 7])) [.ret (.ite (.val (.pr .eq [.var 3, .int 5])) (.tup [.str zs_get, .var 2]) (.tup [.str zs_remove, .var 2]))] [], .ret (.ite (.val (.pr .eq [.var 3, .int 7])) (.tup [.str zs_sum, .var 2, .call 24 [.var 0, .lst [.var 2, .int 63, .pr .add [.var 2, .call 23 [.var 0, .pr .sub [.int 64, .var 2]]]]]]) (.tup [.str zs_get, .var 2]))]⟩
def b29_0 : List CS := [.setIx (.var 3) (.call 23 [.var 0, .var 2]) (.call 24 [.var 0, .lst [.int 0, .int 1, .int 5, .pr .neg [.int 9], .pr .pow [.int 10, .int 9], .pr .neg [.pr .pow [.int 10, .int 9]], .int 33]])]
/-- _law_records -/
def f29 : Fd := ⟨3, 5, [.asg (.nm 3) (.dic [] []), .for (.nm 4) .rng1 [.var 1] b29_0, .ret (.var 3)]⟩
def b30_0 : List CS := [.ife (.and [.val (.pr .gt [.var 3, .int 0]), .val (.pr .eq [.call 23 [.var 0, .int 4], .int 0])]) [.asg (.nm 5) (.call 30 [.var 0, .call 23 [.var 0, .var 1], .var 2, .pr .sub [.var 3, .int 1]]), .asg (.tp [.nm 4, .nm 1]) (.tup [.pr .add [.var 4, .tup [.tup [.str zs_part, .var 5, .call 24 [.var 0, .lst [.str zs_merge, .str zs_merge, .str zs_abort]]]]], .pr .sub [.pr .sub [.var 1, .int 1], .call 31 [.var 5]]])] [.asg (.tp [.nm 4, .nm 1]) (.tup [.pr .add [.var 4, .tup [.call 28 [.var 0, .var 2]]], .pr .sub [.var 1, .int 1]])]]
/-- _law_nest -/
def f30 : Fd := ⟨4, 6, [.asg (.nm 4) (.tup []), .whl (.val (.pr .gt [.var 1, .int 0])) b30_0, .ret (.var 4)]⟩
def x31_0 : CE := .pr .add [.int 1, .ite (.val (.pr .eq [.pr .idx [.var 1, .int 0], .str zs_part])) (.call 31 [.pr .idx [.var 1, .int 1]]) (.int 0)]
def c31_1 : CE := .lc [1] (.nm 1) .seq [.var 0] [] (x31_0)
/-- _law_counted -/
def f31 : Fd := ⟨1, 2, [.ret (.pr .sum [c31_1])]⟩
/-- _law_word -/
def f32 : Fd := ⟨1, 1, [.tr [.expr (.act 0)] [(1, none, [.ret (.str zs_records)]), (2, none, [.ret (.str zs_operation)]), (3, none, [.ret (.str zs_nest)])], .ret (.str z14)]⟩
def b33_0 : List CS := [.ife (.val (.pr .ne [.pr .idx [.var 2, .int 0], .str zs_part])) [.asg (.nm 1) (.pr .add [.var 1, .tup [.var 2]])] [.ife (.val (.pr .eq [.pr .idx [.var 2, .int 2], .str zs_merge])) [.asg (.nm 1) (.pr .add [.var 1, .call 33 [.pr .idx [.var 2, .int 1]]])] []]]
/-- _law_kept -/
def f33 : Fd := ⟨1, 3, [.asg (.nm 1) (.tup []), .for (.nm 2) .seq [.var 0] b33_0, .ret (.var 1)]⟩
def b34_0 : List CS := [.asg (.nm 1) (.tup [.tup [.str zs_part, .var 1, .str zs_merge]])]
/-- _law_deep -/
def f34 : Fd := ⟨1, 3, [.asg (.nm 1) (.tup []), .for (.nm 2) .rng1 [.var 0] b34_0, .ret (.var 1)]⟩
def b35_0 : List CS := [.asg (.nm 8) (.pr .idx [.call 12 [.var 8, .var 9], .int 0])]
def b35_1 : List CS := [.asg (.tp [.nm 3, .nm 4]) (.tup [.call 29 [.var 1, .call 23 [.var 1, .int 6], .int 5], .call 30 [.var 1, .call 23 [.var 1, .int 14], .int 5, .int 4]]), .asg (.tp [.nm 5, .nm 6]) (.call 27 [.var 3, .var 4]), .ife (.or [.val (.pr .notB [.call 19 [.var 4], .bl true]), .val (.pr .ne [.pr .repr [.call 20 [.call 26 [.var 3], .var 4]], .pr .repr [.tup [.call 26 [.var 5], .var 6]]])]) [.ret (.bl false)] [], .asg (.tp [.nm 7, .nm 8]) (.tup [.call 21 [.var 4], .call 26 [.var 3]]), .ife (.val (.pr .ne [.var 7, .call 33 [.var 4]])) [.ret (.bl false)] [], .for (.nm 9) .seq [.var 7] b35_0, .ife (.val (.pr .ne [.var 8, .call 26 [.var 5]])) [.ret (.bl false)] []]
def t35_2 : List CT := [.val (.pr .notB [.call 19 [.var 13], .bl true])]
def x35_3 : CE := .var 13
def c35_4 : CE := .lc [13] (.nm 13) .seq [.var 11] t35_2 (x35_3)
def b35_5 : List CS := [.asg (.nm 15) (.lst [.lam 32 (.call 20 [.tup [], .var 14])]), .ife (.or [.val (.pr .notB [.call 19 [.var 14], .bl false]), .val (.pr .ne [.pr .add [.var 15, .lst [.lam 32 (.call 21 [.var 14])]], .pr .mul [.lst [.str zs_nest], .int 2]])]) [.ret (.bl false)] []]
def x35_6 : CE := .lam 32 (.call 20 [.var 14, .non])
def c35_7 : CE := .lc [14] (.nm 14) .seq [.tup [.non, .lst [], .tup [.tup [.int 1]]]] [] (x35_6)
/-- law -/
def f35 : Fd := ⟨1, 16, [.asg (.nm 1) (.call 22 [.var 0]), .for (.nm 2) .rng1 [.int 4] [.sweep [3, 4, 5, 6, 7, 8, 9] b35_1], .asg (.nm 10) (.tup [.str zs_get, .int 1]), .asg (.nm 11) (.lst [.tup [], .pr .mul [.tup [.var 10], .int 40], .tup [.tup [.str zs_part, .pr .mul [.tup [.var 10], .int 39], .str zs_abort]], .call 34 [.int 5], .tup [.tup [.str zs_part, .call 34 [.int 4], .str zs_abort]]]), .asg (.nm 11) (.pr .add [.var 11, .lst [.pr .mul [.tup [.tup [.str zs_part, .pr .mul [.tup [.var 10], .int 19], .str zs_merge]], .int 2]]]), .asg (.nm 12) (.lst [.non, .lst [], .var 10, .pr .mul [.tup [.var 10], .int 41], .tup [.tup [.str zs_part, .pr .mul [.tup [.var 10], .int 40], .str zs_abort]], .call 34 [.int 6], .tup [.tup [.str zs_part, .tup [], .str zs_stop]], .tup [.tup [.str zs_part, .tup []]]]), .asg (.nm 12) (.pr .add [.var 12, .lst [.tup [.tup [.str zs_part, .lst [.var 10], .str zs_merge]], .tup [.tup [.str zs_part, .tup [], .non]]]]), .asg (.nm 12) (.pr .add [.var 12, .lst [.tup [.tup [.str zs_Part, .tup [], .str zs_merge]], .tup [.tup [.str zs_part, .tup [], .str zs_merge, .tup []]], .tup [.lst [.str zs_part, .tup [], .str zs_merge]], .tup [.tup [.str zs_part, .tup [.non], .str zs_merge]]]]), .asg (.nm 12) (.pr .add [.var 12, .lst [.tup [.tup [.str zs_part, .tup [.tup [.str zs_get, .int 64]], .str zs_merge]], .tup [.tup []], .tup [.var 10, .non], .pr .mul [.tup [.tup [.str zs_part, .pr .mul [.tup [.var 10], .int 20], .str zs_merge]], .int 2]]]), .asg (.nm 12) (.pr .add [.var 12, .lst [.tup [.tup [.str zs_part, .tup [.tup [.str zs_part, .pr .mul [.tup [.var 10], .int 39], .str zs_merge]], .str zs_merge]]]]), .asg (.nm 12) (.pr .add [.var 12, .lst [.tup [.tup [.lst [], .tup [], .str zs_merge]], .tup [.tup [.str zs_part, .tup [], .lst []]], .tup [.tup [.str zs_part, .tup [], .bl true]], .tup [.tup [.str zs_part, .non, .str zs_merge]]]]), .asg (.nm 12) (.pr .add [.var 12, .lst [.pr .add [.pr .mul [.tup [.var 10], .int 21], .tup [.tup [.str zs_part, .pr .mul [.tup [.var 10], .int 19], .str zs_merge]]]]]), .ife (.val (.pr .ne [c35_4, .lst []])) [.ret (.bl false)] [], .for (.nm 14) .seq [.var 12] [.sweep [15] b35_5], .ret (.pr .eq [c35_7, .pr .mul [.lst [.str zs_records], .int 3]])]⟩
def fns : List Fd := [f0, f1, f2, f3, f4, f5, f6, f7, f8, f9, f10, f11, f12, f13, f14, f15, f16, f17, f18, f19, f20, f21, f22, f23, f24, f25, f26, f27, f28, f29, f30, f31, f32, f33, f34, f35]
def gls : List D := [.int (64), .int (1000000000), .int (2000000001), .int (40), .int (6), .tup [.str zs_merge, .str zs_abort]]
def subs : List (Nat × Nat) := [(1, 3), (3, 3), (5, 3), (6, 3), (1, 2), (3, 2), (4, 2), (7, 2), (1, 1), (2, 1), (5, 1), (7, 1)]
def inis : List (Nat × Nat) := []
def mths : List (Nat × Nat × Nat) := []
def foks : List (Nat × Nat) := []
def tb : Ft := ⟨fns, gls, mths, inis, subs, foks, 100000, [35], [32]⟩
theorem gl_KEYS : tb.gl.getD 0 .thk = .int (64) := rfl
theorem gl_HIGHEST : tb.gl.getD 1 .thk = .int (1000000000) := rfl
theorem gl_ROUND : tb.gl.getD 2 .thk = .int (2000000001) := rfl
theorem gl_ITEMS : tb.gl.getD 3 .thk = .int (40) := rfl
theorem gl_DEEP : tb.gl.getD 4 .thk = .int (6) := rfl
theorem gl_ENDS : tb.gl.getD 5 .thk = .tup [.str zs_merge, .str zs_abort] := rfl
abbrev Cn (n : Nat) : Ct := ctOf tb (callL tb n).1 (fun _ _ _ => .stuck) fun _ => .stuck
def nx : Nx := ⟨((["is_whole", "is_tuple_of", "is_key", "is_worth", "fits_records", "fits_operation", "rounded", "worth_in", "with_worth", "done_on", "need_records", "need_operation", "do_operation", "is_part", "fits_item", "fits_nest", "results_in", "kept_in", "need_nest", "is_nest", "do_nest", "kept_operations", "_law_cup", "_law_roll", "_law_some", "_law_done", "_law_told", "_law_nest_done", "_law_operation", "_law_records", "_law_nest", "_law_counted", "_law_word", "_law_kept", "_law_deep", "law"] : List String).map Str.ofString), ((["KEYS", "HIGHEST", "ROUND", "ITEMS", "DEEP", "ENDS"] : List String).map Str.ofString), ((["VaultError", "InvalidRecords", "InvalidOperation", "InvalidNest"] : List String).map Str.ofString), (([] : List String).map Str.ofString), [0, 1, 2, 3]⟩
def nms : List (List Str) := ([["value", "low", "high"], ["value", "low", "high"], ["value"], ["value"], ["value", "one", "other"], ["value"], ["number"], ["records", "key", "own", "value"], ["records", "key", "value", "found", "one"], ["records", "operation", "word", "key", "own", "value", "before"], ["value"], ["value"], ["records", "operation"], ["item"], ["value"], ["value", "line", "many", "one", "deep", "inner"], ["records", "nest", "found", "item", "behind", "inner", "result"], ["nest", "found", "item"], ["value"], ["value"], ["records", "nest"], ["nest"], ["script", "cell"], ["cup", "many", "found", "deep"], ["cup", "things"], ["records", "operation", "word", "key", "found", "own", "before", "value", "total"], ["records"], ["records", "nest", "found", "item", "behind", "inner", "result"], ["cup", "keys", "key", "way"], ["cup", "many", "keys", "found", "turn"], ["cup", "many", "keys", "deep", "found", "inner"], ["nest", "item"], ["call"], ["nest", "found", "item"], ["deep", "found", "turn"], ["script", "cup", "turn", "records", "nest", "behind", "results", "kept", "now", "operation", "get", "goods", "odds", "one", "odd", "words"]] : List (List String)).map fun l => l.map Str.ofString
def top (i : Nat) : Stmt := PySem.Challenge.pw_nestvault_k02_whole_nests.main.body.getD i (.Pass ⟨0, 0, 0, 0⟩)
def dd (i : Nat) (x : Str) : He.DefD := ⟨(x, none), x, x, L2.defArgs (top i), L2.defBody (top i), L2.defScope (top i), [], []⟩
def dm (i j : Nat) (c m q : Str) : He.DefD := ⟨(c, some m), m, q, L2.defArgs (NV.clsAt (top i) j), L2.defBody (NV.clsAt (top i) j), L2.defScope (NV.clsAt (top i) j), [], []⟩
def dds : List He.DefD := [dd 9 "is_whole", dd 10 "is_tuple_of", dd 11 "is_key", dd 12 "is_worth", dd 13 "fits_records", dd 14 "fits_operation", dd 15 "rounded", dd 16 "worth_in", dd 17 "with_worth", dd 18 "done_on", dd 19 "need_records", dd 20 "need_operation", dd 21 "do_operation", dd 26 "is_part", dd 27 "fits_item", dd 28 "fits_nest", dd 29 "results_in", dd 30 "kept_in", dd 31 "need_nest", dd 32 "is_nest", dd 33 "do_nest", dd 34 "kept_operations", dd 36 "_law_cup", dd 37 "_law_roll", dd 38 "_law_some", dd 39 "_law_done", dd 40 "_law_told", dd 41 "_law_nest_done", dd 42 "_law_operation", dd 43 "_law_records", dd 44 "_law_nest", dd 45 "_law_counted", dd 46 "_law_word", dd 47 "_law_kept", dd 48 "_law_deep", dd 49 "law"]
def X : Txt := ⟨tb, nx, dds, nms⟩
end T02

set_option Elab.async false
set_option linter.all false
set_option maxRecDepth 100000
set_option maxHeartbeats 1000000
namespace T02
open NV PySem
theorem is_whole_i (n : Nat) (i lo hi : Int) (m : Mem) : (callL tb (n + 1)).1 0 [.int i, .int lo, .int hi] m = .ok (.bl (decide (lo ≤ i) && decide (i ≤ hi))) m := by
  rw [call_s (fd := f0) rfl]
  simp only [f0, eq_self, decide_true, decide_false, runFn, evSs, evS, evE, evL, evO, evB, evAndB, evOrB, evT, evAnd, evOr, evTs, sSeq, sRet, sPass, sAsg, sExpr, sIf, sRaise, sSetIx, sAug, xCall, xOfT, xAnd, xOr, xBol, xTru, xNot, xPr, xMe, xCons, xNil, xVar, xChain, xCB, xC, xIte, xTup, xLst, xDic, xSl, xAt, xNoP, okTup, okLst, getS, setS, startS, Rs.bind, Rs.then, Rt.and, boolR, truthR, truthD, okBl, asgT, asgTs, gl_ct, call_ct, fu_ct, end_next, end_exc, end_bl, end_int, end_str, end_non, end_tup, clean_bl, clean_int, clean_str, clean_non, clean_tup, nl_non, nl_bl, nl_int, nl_str, nl_tup, nl_loc, nlL_nil, nlL_cons, Bool.and_true, Bool.true_and, Bool.and_false, Bool.false_and, Bool.or_true, Bool.or_false, Bool.true_or, Bool.false_or, Bool.not_true, Bool.not_false, List.length_cons, List.length_nil, List.map_cons, List.map_nil, List.cons_append, List.nil_append, List.getElem?_cons_zero, List.getElem?_cons_succ, List.set_cons_zero, List.set_cons_succ, Nat.reduceAdd, Int.reduceSub, Int.reduceNeg, Nat.reduceSub, Nat.reduceBEq, List.replicate_succ, List.replicate_zero, if_true, if_false, reduceIte, beq_self_eq_true, cln_self, q_le, q_lt, q_gt, q_ge, q_add, q_sub, q_neg, q_abs, q_int, q_bool, q_eqI, q_neI, q_ix0, q_ix1, q_ix2, q_lenT, q_isInt, q_isBool, q_isTuple, q_isStr, p_is, tyD, tInt, tBool, tTuple, tStr, ok_zs_get, ok_zs_remove, ok_zs_put, ok_zs_add, ok_zs_sum, ok_zs_not_records, ok_zs_not_an_operation, ok_zs_part, ok_zs_merge, ok_zs_not_a_nest, ok_zs_abort, ok_zs_records, ok_zs_operation, ok_zs_nest, ok_z14, ok_zs_stop, ok_zs_Part, gl_KEYS, gl_HIGHEST, gl_ROUND, gl_ITEMS, gl_DEEP, gl_ENDS]
  cases decide (lo ≤ i) <;> cases decide (i ≤ hi) <;> simp only [eq_self, decide_true, decide_false, runFn, evSs, evS, evE, evL, evO, evB, evAndB, evOrB, evT, evAnd, evOr, evTs, sSeq, sRet, sPass, sAsg, sExpr, sIf, sRaise, sSetIx, sAug, xCall, xOfT, xAnd, xOr, xBol, xTru, xNot, xPr, xMe, xCons, xNil, xVar, xChain, xCB, xC, xIte, xTup, xLst, xDic, xSl, xAt, xNoP, okTup, okLst, getS, setS, startS, Rs.bind, Rs.then, Rt.and, boolR, truthR, truthD, okBl, asgT, asgTs, gl_ct, call_ct, fu_ct, end_next, end_exc, end_bl, end_int, end_str, end_non, end_tup, clean_bl, clean_int, clean_str, clean_non, clean_tup, nl_non, nl_bl, nl_int, nl_str, nl_tup, nl_loc, nlL_nil, nlL_cons, Bool.and_true, Bool.true_and, Bool.and_false, Bool.false_and, Bool.or_true, Bool.or_false, Bool.true_or, Bool.false_or, Bool.not_true, Bool.not_false, List.length_cons, List.length_nil, List.map_cons, List.map_nil, List.cons_append, List.nil_append, List.getElem?_cons_zero, List.getElem?_cons_succ, List.set_cons_zero, List.set_cons_succ, Nat.reduceAdd, Int.reduceSub, Int.reduceNeg, Nat.reduceSub, Nat.reduceBEq, List.replicate_succ, List.replicate_zero, if_true, if_false, reduceIte, beq_self_eq_true, cln_self, q_le, q_lt, q_gt, q_ge, q_add, q_sub, q_neg, q_abs, q_int, q_bool, q_eqI, q_neI, q_ix0, q_ix1, q_ix2, q_lenT, q_isInt, q_isBool, q_isTuple, q_isStr, p_is, tyD, tInt, tBool, tTuple, tStr, ok_zs_get, ok_zs_remove, ok_zs_put, ok_zs_add, ok_zs_sum, ok_zs_not_records, ok_zs_not_an_operation, ok_zs_part, ok_zs_merge, ok_zs_not_a_nest, ok_zs_abort, ok_zs_records, ok_zs_operation, ok_zs_nest, ok_z14, ok_zs_stop, ok_zs_Part, gl_KEYS, gl_HIGHEST, gl_ROUND, gl_ITEMS, gl_DEEP, gl_ENDS]
theorem is_key_i (n : Nat) (i : Int) (m : Mem) : (callL tb (n + 2)).1 2 [.int i] m = .ok (.bl (decide (0 ≤ i) && decide (i ≤ 63))) m := by
  rw [call_s (fd := f2) rfl]
  simp only [f2, is_whole_i, eq_self, decide_true, decide_false, runFn, evSs, evS, evE, evL, evO, evB, evAndB, evOrB, evT, evAnd, evOr, evTs, sSeq, sRet, sPass, sAsg, sExpr, sIf, sRaise, sSetIx, sAug, xCall, xOfT, xAnd, xOr, xBol, xTru, xNot, xPr, xMe, xCons, xNil, xVar, xChain, xCB, xC, xIte, xTup, xLst, xDic, xSl, xAt, xNoP, okTup, okLst, getS, setS, startS, Rs.bind, Rs.then, Rt.and, boolR, truthR, truthD, okBl, asgT, asgTs, gl_ct, call_ct, fu_ct, end_next, end_exc, end_bl, end_int, end_str, end_non, end_tup, clean_bl, clean_int, clean_str, clean_non, clean_tup, nl_non, nl_bl, nl_int, nl_str, nl_tup, nl_loc, nlL_nil, nlL_cons, Bool.and_true, Bool.true_and, Bool.and_false, Bool.false_and, Bool.or_true, Bool.or_false, Bool.true_or, Bool.false_or, Bool.not_true, Bool.not_false, List.length_cons, List.length_nil, List.map_cons, List.map_nil, List.cons_append, List.nil_append, List.getElem?_cons_zero, List.getElem?_cons_succ, List.set_cons_zero, List.set_cons_succ, Nat.reduceAdd, Int.reduceSub, Int.reduceNeg, Nat.reduceSub, Nat.reduceBEq, List.replicate_succ, List.replicate_zero, if_true, if_false, reduceIte, beq_self_eq_true, cln_self, q_le, q_lt, q_gt, q_ge, q_add, q_sub, q_neg, q_abs, q_int, q_bool, q_eqI, q_neI, q_ix0, q_ix1, q_ix2, q_lenT, q_isInt, q_isBool, q_isTuple, q_isStr, p_is, tyD, tInt, tBool, tTuple, tStr, ok_zs_get, ok_zs_remove, ok_zs_put, ok_zs_add, ok_zs_sum, ok_zs_not_records, ok_zs_not_an_operation, ok_zs_part, ok_zs_merge, ok_zs_not_a_nest, ok_zs_abort, ok_zs_records, ok_zs_operation, ok_zs_nest, ok_z14, ok_zs_stop, ok_zs_Part, gl_KEYS, gl_HIGHEST, gl_ROUND, gl_ITEMS, gl_DEEP, gl_ENDS]
theorem is_worth_i (n : Nat) (i : Int) (m : Mem) : (callL tb (n + 2)).1 3 [.int i] m = .ok (.bl (decide (-1000000000 ≤ i) && decide (i ≤ 1000000000))) m := by
  rw [call_s (fd := f3) rfl]
  simp only [f3, is_whole_i, eq_self, decide_true, decide_false, runFn, evSs, evS, evE, evL, evO, evB, evAndB, evOrB, evT, evAnd, evOr, evTs, sSeq, sRet, sPass, sAsg, sExpr, sIf, sRaise, sSetIx, sAug, xCall, xOfT, xAnd, xOr, xBol, xTru, xNot, xPr, xMe, xCons, xNil, xVar, xChain, xCB, xC, xIte, xTup, xLst, xDic, xSl, xAt, xNoP, okTup, okLst, getS, setS, startS, Rs.bind, Rs.then, Rt.and, boolR, truthR, truthD, okBl, asgT, asgTs, gl_ct, call_ct, fu_ct, end_next, end_exc, end_bl, end_int, end_str, end_non, end_tup, clean_bl, clean_int, clean_str, clean_non, clean_tup, nl_non, nl_bl, nl_int, nl_str, nl_tup, nl_loc, nlL_nil, nlL_cons, Bool.and_true, Bool.true_and, Bool.and_false, Bool.false_and, Bool.or_true, Bool.or_false, Bool.true_or, Bool.false_or, Bool.not_true, Bool.not_false, List.length_cons, List.length_nil, List.map_cons, List.map_nil, List.cons_append, List.nil_append, List.getElem?_cons_zero, List.getElem?_cons_succ, List.set_cons_zero, List.set_cons_succ, Nat.reduceAdd, Int.reduceSub, Int.reduceNeg, Nat.reduceSub, Nat.reduceBEq, List.replicate_succ, List.replicate_zero, if_true, if_false, reduceIte, beq_self_eq_true, cln_self, q_le, q_lt, q_gt, q_ge, q_add, q_sub, q_neg, q_abs, q_int, q_bool, q_eqI, q_neI, q_ix0, q_ix1, q_ix2, q_lenT, q_isInt, q_isBool, q_isTuple, q_isStr, p_is, tyD, tInt, tBool, tTuple, tStr, ok_zs_get, ok_zs_remove, ok_zs_put, ok_zs_add, ok_zs_sum, ok_zs_not_records, ok_zs_not_an_operation, ok_zs_part, ok_zs_merge, ok_zs_not_a_nest, ok_zs_abort, ok_zs_records, ok_zs_operation, ok_zs_nest, ok_z14, ok_zs_stop, ok_zs_Part, gl_KEYS, gl_HIGHEST, gl_ROUND, gl_ITEMS, gl_DEEP, gl_ENDS]
theorem is_tuple_t (n : Nat) (xs : List D) (lo hi : Int) (m : Mem) : (callL tb (n + 1)).1 1 [.tup xs, .int lo, .int hi] m = .ok (.bl (decide (lo ≤ xs.length) && decide ((xs.length : Int) ≤ hi))) m := by
  rw [call_s (fd := f1) rfl]
  simp only [f1, eq_self, decide_true, decide_false, runFn, evSs, evS, evE, evL, evO, evB, evAndB, evOrB, evT, evAnd, evOr, evTs, sSeq, sRet, sPass, sAsg, sExpr, sIf, sRaise, sSetIx, sAug, xCall, xOfT, xAnd, xOr, xBol, xTru, xNot, xPr, xMe, xCons, xNil, xVar, xChain, xCB, xC, xIte, xTup, xLst, xDic, xSl, xAt, xNoP, okTup, okLst, getS, setS, startS, Rs.bind, Rs.then, Rt.and, boolR, truthR, truthD, okBl, asgT, asgTs, gl_ct, call_ct, fu_ct, end_next, end_exc, end_bl, end_int, end_str, end_non, end_tup, clean_bl, clean_int, clean_str, clean_non, clean_tup, nl_non, nl_bl, nl_int, nl_str, nl_tup, nl_loc, nlL_nil, nlL_cons, Bool.and_true, Bool.true_and, Bool.and_false, Bool.false_and, Bool.or_true, Bool.or_false, Bool.true_or, Bool.false_or, Bool.not_true, Bool.not_false, List.length_cons, List.length_nil, List.map_cons, List.map_nil, List.cons_append, List.nil_append, List.getElem?_cons_zero, List.getElem?_cons_succ, List.set_cons_zero, List.set_cons_succ, Nat.reduceAdd, Int.reduceSub, Int.reduceNeg, Nat.reduceSub, Nat.reduceBEq, List.replicate_succ, List.replicate_zero, if_true, if_false, reduceIte, beq_self_eq_true, cln_self, q_le, q_lt, q_gt, q_ge, q_add, q_sub, q_neg, q_abs, q_int, q_bool, q_eqI, q_neI, q_ix0, q_ix1, q_ix2, q_lenT, q_isInt, q_isBool, q_isTuple, q_isStr, p_is, tyD, tInt, tBool, tTuple, tStr, ok_zs_get, ok_zs_remove, ok_zs_put, ok_zs_add, ok_zs_sum, ok_zs_not_records, ok_zs_not_an_operation, ok_zs_part, ok_zs_merge, ok_zs_not_a_nest, ok_zs_abort, ok_zs_records, ok_zs_operation, ok_zs_nest, ok_z14, ok_zs_stop, ok_zs_Part, gl_KEYS, gl_HIGHEST, gl_ROUND, gl_ITEMS, gl_DEEP, gl_ENDS]
  cases decide (lo ≤ (xs.length : Int)) <;> cases decide ((xs.length : Int) ≤ hi) <;> simp only [eq_self, decide_true, decide_false, runFn, evSs, evS, evE, evL, evO, evB, evAndB, evOrB, evT, evAnd, evOr, evTs, sSeq, sRet, sPass, sAsg, sExpr, sIf, sRaise, sSetIx, sAug, xCall, xOfT, xAnd, xOr, xBol, xTru, xNot, xPr, xMe, xCons, xNil, xVar, xChain, xCB, xC, xIte, xTup, xLst, xDic, xSl, xAt, xNoP, okTup, okLst, getS, setS, startS, Rs.bind, Rs.then, Rt.and, boolR, truthR, truthD, okBl, asgT, asgTs, gl_ct, call_ct, fu_ct, end_next, end_exc, end_bl, end_int, end_str, end_non, end_tup, clean_bl, clean_int, clean_str, clean_non, clean_tup, nl_non, nl_bl, nl_int, nl_str, nl_tup, nl_loc, nlL_nil, nlL_cons, Bool.and_true, Bool.true_and, Bool.and_false, Bool.false_and, Bool.or_true, Bool.or_false, Bool.true_or, Bool.false_or, Bool.not_true, Bool.not_false, List.length_cons, List.length_nil, List.map_cons, List.map_nil, List.cons_append, List.nil_append, List.getElem?_cons_zero, List.getElem?_cons_succ, List.set_cons_zero, List.set_cons_succ, Nat.reduceAdd, Int.reduceSub, Int.reduceNeg, Nat.reduceSub, Nat.reduceBEq, List.replicate_succ, List.replicate_zero, if_true, if_false, reduceIte, beq_self_eq_true, cln_self, q_le, q_lt, q_gt, q_ge, q_add, q_sub, q_neg, q_abs, q_int, q_bool, q_eqI, q_neI, q_ix0, q_ix1, q_ix2, q_lenT, q_isInt, q_isBool, q_isTuple, q_isStr, p_is, tyD, tInt, tBool, tTuple, tStr, ok_zs_get, ok_zs_remove, ok_zs_put, ok_zs_add, ok_zs_sum, ok_zs_not_records, ok_zs_not_an_operation, ok_zs_part, ok_zs_merge, ok_zs_not_a_nest, ok_zs_abort, ok_zs_records, ok_zs_operation, ok_zs_nest, ok_z14, ok_zs_stop, ok_zs_Part, gl_KEYS, gl_HIGHEST, gl_ROUND, gl_ITEMS, gl_DEEP, gl_ENDS]
theorem fits_op (n : Nat) (o : Op) (h : o.ok) (m : Mem) : (callL tb (n + 3)).1 5 [o.D] m = .ok (.bl true) m := by
  rw [call_s (fd := f5) rfl]
  cases o <;> simp only [Op.ok] at h <;> simp (decide := true) only [Op.D, f5, is_key_i, is_worth_i, is_tuple_t, q_eqS, q_neS, q_inS2, h, eq_self, decide_true, decide_false, runFn, evSs, evS, evE, evL, evO, evB, evAndB, evOrB, evT, evAnd, evOr, evTs, sSeq, sRet, sPass, sAsg, sExpr, sIf, sRaise, sSetIx, sAug, xCall, xOfT, xAnd, xOr, xBol, xTru, xNot, xPr, xMe, xCons, xNil, xVar, xChain, xCB, xC, xIte, xTup, xLst, xDic, xSl, xAt, xNoP, okTup, okLst, getS, setS, startS, Rs.bind, Rs.then, Rt.and, boolR, truthR, truthD, okBl, asgT, asgTs, gl_ct, call_ct, fu_ct, end_next, end_exc, end_bl, end_int, end_str, end_non, end_tup, clean_bl, clean_int, clean_str, clean_non, clean_tup, nl_non, nl_bl, nl_int, nl_str, nl_tup, nl_loc, nlL_nil, nlL_cons, Bool.and_true, Bool.true_and, Bool.and_false, Bool.false_and, Bool.or_true, Bool.or_false, Bool.true_or, Bool.false_or, Bool.not_true, Bool.not_false, List.length_cons, List.length_nil, List.map_cons, List.map_nil, List.cons_append, List.nil_append, List.getElem?_cons_zero, List.getElem?_cons_succ, List.set_cons_zero, List.set_cons_succ, Nat.reduceAdd, Int.reduceSub, Int.reduceNeg, Nat.reduceSub, Nat.reduceBEq, List.replicate_succ, List.replicate_zero, if_true, if_false, reduceIte, beq_self_eq_true, cln_self, q_le, q_lt, q_gt, q_ge, q_add, q_sub, q_neg, q_abs, q_int, q_bool, q_eqI, q_neI, q_ix0, q_ix1, q_ix2, q_lenT, q_isInt, q_isBool, q_isTuple, q_isStr, p_is, tyD, tInt, tBool, tTuple, tStr, ok_zs_get, ok_zs_remove, ok_zs_put, ok_zs_add, ok_zs_sum, ok_zs_not_records, ok_zs_not_an_operation, ok_zs_part, ok_zs_merge, ok_zs_not_a_nest, ok_zs_abort, ok_zs_records, ok_zs_operation, ok_zs_nest, ok_z14, ok_zs_stop, ok_zs_Part, gl_KEYS, gl_HIGHEST, gl_ROUND, gl_ITEMS, gl_DEEP, gl_ENDS]
theorem need_op (n : Nat) (o : Op) (h : o.ok) (m : Mem) : (callL tb (n + 4)).1 11 [o.D] m = .ok .non m := by
  rw [call_s (fd := f11) rfl]
  simp only [f11, fits_op _ o h, eq_self, decide_true, decide_false, runFn, evSs, evS, evE, evL, evO, evB, evAndB, evOrB, evT, evAnd, evOr, evTs, sSeq, sRet, sPass, sAsg, sExpr, sIf, sRaise, sSetIx, sAug, xCall, xOfT, xAnd, xOr, xBol, xTru, xNot, xPr, xMe, xCons, xNil, xVar, xChain, xCB, xC, xIte, xTup, xLst, xDic, xSl, xAt, xNoP, okTup, okLst, getS, setS, startS, Rs.bind, Rs.then, Rt.and, boolR, truthR, truthD, okBl, asgT, asgTs, gl_ct, call_ct, fu_ct, end_next, end_exc, end_bl, end_int, end_str, end_non, end_tup, clean_bl, clean_int, clean_str, clean_non, clean_tup, nl_non, nl_bl, nl_int, nl_str, nl_tup, nl_loc, nlL_nil, nlL_cons, Bool.and_true, Bool.true_and, Bool.and_false, Bool.false_and, Bool.or_true, Bool.or_false, Bool.true_or, Bool.false_or, Bool.not_true, Bool.not_false, List.length_cons, List.length_nil, List.map_cons, List.map_nil, List.cons_append, List.nil_append, List.getElem?_cons_zero, List.getElem?_cons_succ, List.set_cons_zero, List.set_cons_succ, Nat.reduceAdd, Int.reduceSub, Int.reduceNeg, Nat.reduceSub, Nat.reduceBEq, List.replicate_succ, List.replicate_zero, if_true, if_false, reduceIte, beq_self_eq_true, cln_self, q_le, q_lt, q_gt, q_ge, q_add, q_sub, q_neg, q_abs, q_int, q_bool, q_eqI, q_neI, q_ix0, q_ix1, q_ix2, q_lenT, q_isInt, q_isBool, q_isTuple, q_isStr, p_is, tyD, tInt, tBool, tTuple, tStr, ok_zs_get, ok_zs_remove, ok_zs_put, ok_zs_add, ok_zs_sum, ok_zs_not_records, ok_zs_not_an_operation, ok_zs_part, ok_zs_merge, ok_zs_not_a_nest, ok_zs_abort, ok_zs_records, ok_zs_operation, ok_zs_nest, ok_z14, ok_zs_stop, ok_zs_Part, gl_KEYS, gl_HIGHEST, gl_ROUND, gl_ITEMS, gl_DEEP, gl_ENDS]
theorem turn4a (n : Nat) (l : List (Int × Int)) (a b : Option D) (p : Int × Int) (hp : 0 ≤ p.1 ∧ p.1 ≤ 63 ∧ -1000000000 ≤ p.2 ∧ p.2 ≤ 1000000000) (m : Mem) :
    turnE (.nm 1) [1] [some (recD l), a, b] (evTs (ctOf tb (callL tb (n + 2)).1 (fun _ _ _ => .stuck) fun _ => .stuck) []) (evE (ctOf tb (callL tb (n + 2)).1 (fun _ _ _ => .stuck) fun _ => .stuck) x4_0) (pt p) m = .ok (some (.bl true)) m := by
  simp (decide := true) only [pt, x4_0, is_tuple_t, is_key_i, is_worth_i, hp, eq_self, decide_true, decide_false, runFn, evSs, evS, evE, evL, evO, evB, evAndB, evOrB, evT, evAnd, evOr, evTs, sSeq, sRet, sPass, sAsg, sExpr, sIf, sRaise, sSetIx, sAug, xCall, xOfT, xAnd, xOr, xBol, xTru, xNot, xPr, xMe, xCons, xNil, xVar, xChain, xCB, xC, xIte, xTup, xLst, xDic, xSl, xAt, xNoP, okTup, okLst, getS, setS, startS, Rs.bind, Rs.then, Rt.and, boolR, truthR, truthD, okBl, asgT, asgTs, gl_ct, call_ct, fu_ct, end_next, end_exc, end_bl, end_int, end_str, end_non, end_tup, clean_bl, clean_int, clean_str, clean_non, clean_tup, nl_non, nl_bl, nl_int, nl_str, nl_tup, nl_loc, nlL_nil, nlL_cons, Bool.and_true, Bool.true_and, Bool.and_false, Bool.false_and, Bool.or_true, Bool.or_false, Bool.true_or, Bool.false_or, Bool.not_true, Bool.not_false, List.length_cons, List.length_nil, List.map_cons, List.map_nil, List.cons_append, List.nil_append, List.getElem?_cons_zero, List.getElem?_cons_succ, List.set_cons_zero, List.set_cons_succ, Nat.reduceAdd, Int.reduceSub, Int.reduceNeg, Nat.reduceSub, Nat.reduceBEq, List.replicate_succ, List.replicate_zero, if_true, if_false, reduceIte, beq_self_eq_true, cln_self, q_le, q_lt, q_gt, q_ge, q_add, q_sub, q_neg, q_abs, q_int, q_bool, q_eqI, q_neI, q_ix0, q_ix1, q_ix2, q_lenT, q_isInt, q_isBool, q_isTuple, q_isStr, p_is, tyD, tInt, tBool, tTuple, tStr, ok_zs_get, ok_zs_remove, ok_zs_put, ok_zs_add, ok_zs_sum, ok_zs_not_records, ok_zs_not_an_operation, ok_zs_part, ok_zs_merge, ok_zs_not_a_nest, ok_zs_abort, ok_zs_records, ok_zs_operation, ok_zs_nest, ok_z14, ok_zs_stop, ok_zs_Part, gl_KEYS, gl_HIGHEST, gl_ROUND, gl_ITEMS, gl_DEEP, gl_ENDS, xLc, itOf, itSeq, itR1, lcRun, lcF, turnE, wipeS, Rs.noexc, clnE, clean_pl, end_pl, q_px0, q_px1, cln_push, cln_push2, cln_push3, sFor, forRun]
theorem turn4b (n : Nat) (l : List (Int × Int)) (a b : Option D) (p q : Int × Int) (hp : p.1 < q.1) (m : Mem) :
    turnE (.tp [.nm 1, .nm 2]) [1, 2] [some (recD l), a, b] (evTs (ctOf tb (callL tb (n + 2)).1 (fun _ _ _ => .stuck) fun _ => .stuck) []) (evE (ctOf tb (callL tb (n + 2)).1 (fun _ _ _ => .stuck) fun _ => .stuck) x4_2) (.tup [pt p, pt q]) m = .ok (some (.bl true)) m := by
  simp (decide := true) only [pt, x4_2, hp, eq_self, decide_true, decide_false, runFn, evSs, evS, evE, evL, evO, evB, evAndB, evOrB, evT, evAnd, evOr, evTs, sSeq, sRet, sPass, sAsg, sExpr, sIf, sRaise, sSetIx, sAug, xCall, xOfT, xAnd, xOr, xBol, xTru, xNot, xPr, xMe, xCons, xNil, xVar, xChain, xCB, xC, xIte, xTup, xLst, xDic, xSl, xAt, xNoP, okTup, okLst, getS, setS, startS, Rs.bind, Rs.then, Rt.and, boolR, truthR, truthD, okBl, asgT, asgTs, gl_ct, call_ct, fu_ct, end_next, end_exc, end_bl, end_int, end_str, end_non, end_tup, clean_bl, clean_int, clean_str, clean_non, clean_tup, nl_non, nl_bl, nl_int, nl_str, nl_tup, nl_loc, nlL_nil, nlL_cons, Bool.and_true, Bool.true_and, Bool.and_false, Bool.false_and, Bool.or_true, Bool.or_false, Bool.true_or, Bool.false_or, Bool.not_true, Bool.not_false, List.length_cons, List.length_nil, List.map_cons, List.map_nil, List.cons_append, List.nil_append, List.getElem?_cons_zero, List.getElem?_cons_succ, List.set_cons_zero, List.set_cons_succ, Nat.reduceAdd, Int.reduceSub, Int.reduceNeg, Nat.reduceSub, Nat.reduceBEq, List.replicate_succ, List.replicate_zero, if_true, if_false, reduceIte, beq_self_eq_true, cln_self, q_le, q_lt, q_gt, q_ge, q_add, q_sub, q_neg, q_abs, q_int, q_bool, q_eqI, q_neI, q_ix0, q_ix1, q_ix2, q_lenT, q_isInt, q_isBool, q_isTuple, q_isStr, p_is, tyD, tInt, tBool, tTuple, tStr, ok_zs_get, ok_zs_remove, ok_zs_put, ok_zs_add, ok_zs_sum, ok_zs_not_records, ok_zs_not_an_operation, ok_zs_part, ok_zs_merge, ok_zs_not_a_nest, ok_zs_abort, ok_zs_records, ok_zs_operation, ok_zs_nest, ok_z14, ok_zs_stop, ok_zs_Part, gl_KEYS, gl_HIGHEST, gl_ROUND, gl_ITEMS, gl_DEEP, gl_ENDS, xLc, itOf, itSeq, itR1, lcRun, lcF, turnE, wipeS, Rs.noexc, clnE, clean_pl, end_pl, q_px0, q_px1, cln_push, cln_push2, cln_push3, sFor, forRun]
theorem fits_recs (n : Nat) (l : List (Int × Int)) (h : Can l) (hz : l.length ≤ 64) (m : Mem) : (callL tb (n + 3)).1 4 [recD l] m = .ok (.bl true) m := by
  rw [call_s (fd := f4) rfl]
  have c1 : ∀ a b m, evE (ctOf tb (callL tb (n + 2)).1 (fun _ _ _ => .stuck) fun _ => .stuck) c4_1 [some (recD l), a, b] m = newL m ((l.map pt).map fun _ => D.bl true) := fun a b m => by
    rw [← filt_true]
    exact lc_seqT rfl fun x hx => by
      obtain ⟨p, hp, rfl⟩ := List.mem_map.mp hx
      exact turn4a n l a b p (h.1 p hp) m
  have c2 : ∀ a b m, evE (ctOf tb (callL tb (n + 2)).1 (fun _ _ _ => .stuck) fun _ => .stuck) c4_3 [some (recD l), a, b] m = newL m ((zipD (l.map pt) ((l.map pt).drop 1)).map fun _ => D.bl true) := fun a b m => by
    rw [← filt_true]
    exact lc_zipT rfl fun x hx => by
      obtain ⟨p, q, rfl, hp⟩ := zip_adj h.2 x hx
      exact turn4b n l a b p q hp m
  have hz2 : (zipD (l.map pt) ((l.map pt).drop 1)).length ≤ 1000 := Nat.le_trans (zipD_len _ _) (by rw [List.length_map]; omega)
  have n1 := newL_ok (m := m) (xs := (l.map pt).map fun _ => D.bl true) (by rw [List.length_map, List.length_map]; omega)
  have n2 := newL_ok (m := m) (xs := (zipD (l.map pt) ((l.map pt).drop 1)).map fun _ => D.bl true) (by rw [List.length_map]; exact hz2)
  have hl : (0 : Int) ≤ (l.map pt).length ∧ ((l.map pt).length : Int) ≤ 64 := by rw [List.length_map]; omega
  have rl : recD l = .tup (l.map pt) := rfl
  have t1 : ∀ m, (callL tb (n + 2)).1 1 [recD l, .int 0, .int 64] m = .ok (.bl true) m := fun m => by
    rw [rl, is_tuple_t]
    simp only [hl, eq_self, decide_true, decide_false, runFn, evSs, evS, evE, evL, evO, evB, evAndB, evOrB, evT, evAnd, evOr, evTs, sSeq, sRet, sPass, sAsg, sExpr, sIf, sRaise, sSetIx, sAug, xCall, xOfT, xAnd, xOr, xBol, xTru, xNot, xPr, xMe, xCons, xNil, xVar, xChain, xCB, xC, xIte, xTup, xLst, xDic, xSl, xAt, xNoP, okTup, okLst, getS, setS, startS, Rs.bind, Rs.then, Rt.and, boolR, truthR, truthD, okBl, asgT, asgTs, gl_ct, call_ct, fu_ct, end_next, end_exc, end_bl, end_int, end_str, end_non, end_tup, clean_bl, clean_int, clean_str, clean_non, clean_tup, nl_non, nl_bl, nl_int, nl_str, nl_tup, nl_loc, nlL_nil, nlL_cons, Bool.and_true, Bool.true_and, Bool.and_false, Bool.false_and, Bool.or_true, Bool.or_false, Bool.true_or, Bool.false_or, Bool.not_true, Bool.not_false, List.length_cons, List.length_nil, List.map_cons, List.map_nil, List.cons_append, List.nil_append, List.getElem?_cons_zero, List.getElem?_cons_succ, List.set_cons_zero, List.set_cons_succ, Nat.reduceAdd, Int.reduceSub, Int.reduceNeg, Nat.reduceSub, Nat.reduceBEq, List.replicate_succ, List.replicate_zero, if_true, if_false, reduceIte, beq_self_eq_true, cln_self, q_le, q_lt, q_gt, q_ge, q_add, q_sub, q_neg, q_abs, q_int, q_bool, q_eqI, q_neI, q_ix0, q_ix1, q_ix2, q_lenT, q_isInt, q_isBool, q_isTuple, q_isStr, p_is, tyD, tInt, tBool, tTuple, tStr, ok_zs_get, ok_zs_remove, ok_zs_put, ok_zs_add, ok_zs_sum, ok_zs_not_records, ok_zs_not_an_operation, ok_zs_part, ok_zs_merge, ok_zs_not_a_nest, ok_zs_abort, ok_zs_records, ok_zs_operation, ok_zs_nest, ok_z14, ok_zs_stop, ok_zs_Part, gl_KEYS, gl_HIGHEST, gl_ROUND, gl_ITEMS, gl_DEEP, gl_ENDS]
  simp (decide := true) only [f4, t1, c1, c2, n1, n2, q_allT, cln_push, eq_self, decide_true, decide_false, runFn, evSs, evS, evE, evL, evO, evB, evAndB, evOrB, evT, evAnd, evOr, evTs, sSeq, sRet, sPass, sAsg, sExpr, sIf, sRaise, sSetIx, sAug, xCall, xOfT, xAnd, xOr, xBol, xTru, xNot, xPr, xMe, xCons, xNil, xVar, xChain, xCB, xC, xIte, xTup, xLst, xDic, xSl, xAt, xNoP, okTup, okLst, getS, setS, startS, Rs.bind, Rs.then, Rt.and, boolR, truthR, truthD, okBl, asgT, asgTs, gl_ct, call_ct, fu_ct, end_next, end_exc, end_bl, end_int, end_str, end_non, end_tup, clean_bl, clean_int, clean_str, clean_non, clean_tup, nl_non, nl_bl, nl_int, nl_str, nl_tup, nl_loc, nlL_nil, nlL_cons, Bool.and_true, Bool.true_and, Bool.and_false, Bool.false_and, Bool.or_true, Bool.or_false, Bool.true_or, Bool.false_or, Bool.not_true, Bool.not_false, List.length_cons, List.length_nil, List.map_cons, List.map_nil, List.cons_append, List.nil_append, List.getElem?_cons_zero, List.getElem?_cons_succ, List.set_cons_zero, List.set_cons_succ, Nat.reduceAdd, Int.reduceSub, Int.reduceNeg, Nat.reduceSub, Nat.reduceBEq, List.replicate_succ, List.replicate_zero, if_true, if_false, reduceIte, beq_self_eq_true, cln_self, q_le, q_lt, q_gt, q_ge, q_add, q_sub, q_neg, q_abs, q_int, q_bool, q_eqI, q_neI, q_ix0, q_ix1, q_ix2, q_lenT, q_isInt, q_isBool, q_isTuple, q_isStr, p_is, tyD, tInt, tBool, tTuple, tStr, ok_zs_get, ok_zs_remove, ok_zs_put, ok_zs_add, ok_zs_sum, ok_zs_not_records, ok_zs_not_an_operation, ok_zs_part, ok_zs_merge, ok_zs_not_a_nest, ok_zs_abort, ok_zs_records, ok_zs_operation, ok_zs_nest, ok_z14, ok_zs_stop, ok_zs_Part, gl_KEYS, gl_HIGHEST, gl_ROUND, gl_ITEMS, gl_DEEP, gl_ENDS]
theorem worth_loop (n : Nat) (R : D) (k : Int) (m : Mem) : ∀ (l : List (Int × Int)) (x y : Option D), ∃ x' y' : Option D, forF (evSs (Cn n) b7_0) (.tp [.nm 2, .nm 3]) (l.map pt) [some R, some (.int k), x, y] m =
    (match lkO l k with
      | some v => .ret (.int v) m
      | none => .next [some R, some (.int k), x', y'] m)
  | [], x, y => ⟨x, y, rfl⟩
  | (a, b) :: l, x, y => by
    obtain ⟨x', y', e⟩ := worth_loop n R k m l (some (.int a)) (some (.int b))
    refine ⟨x', y', ?_⟩
    have e2 : evSs (Cn n) b7_0 [some R, some (.int k), some (.int a), some (.int b)] m = if a = k then .ret (.int b) m else .next [some R, some (.int k), some (.int a), some (.int b)] m := by
      by_cases h : a = k
      · simp (decide := true) only [b7_0, h, eq_self, decide_true, decide_false, runFn, evSs, evS, evE, evL, evO, evB, evAndB, evOrB, evT, evAnd, evOr, evTs, sSeq, sRet, sPass, sAsg, sExpr, sIf, sRaise, sSetIx, sAug, xCall, xOfT, xAnd, xOr, xBol, xTru, xNot, xPr, xMe, xCons, xNil, xVar, xChain, xCB, xC, xIte, xTup, xLst, xDic, xSl, xAt, xNoP, okTup, okLst, getS, setS, startS, Rs.bind, Rs.then, Rt.and, boolR, truthR, truthD, okBl, asgT, asgTs, gl_ct, call_ct, fu_ct, end_next, end_exc, end_bl, end_int, end_str, end_non, end_tup, clean_bl, clean_int, clean_str, clean_non, clean_tup, nl_non, nl_bl, nl_int, nl_str, nl_tup, nl_loc, nlL_nil, nlL_cons, Bool.and_true, Bool.true_and, Bool.and_false, Bool.false_and, Bool.or_true, Bool.or_false, Bool.true_or, Bool.false_or, Bool.not_true, Bool.not_false, List.length_cons, List.length_nil, List.map_cons, List.map_nil, List.cons_append, List.nil_append, List.getElem?_cons_zero, List.getElem?_cons_succ, List.set_cons_zero, List.set_cons_succ, Nat.reduceAdd, Int.reduceSub, Int.reduceNeg, Nat.reduceSub, Nat.reduceBEq, List.replicate_succ, List.replicate_zero, if_true, if_false, reduceIte, beq_self_eq_true, cln_self, q_le, q_lt, q_gt, q_ge, q_add, q_sub, q_neg, q_abs, q_int, q_bool, q_eqI, q_neI, q_ix0, q_ix1, q_ix2, q_lenT, q_isInt, q_isBool, q_isTuple, q_isStr, p_is, tyD, tInt, tBool, tTuple, tStr, ok_zs_get, ok_zs_remove, ok_zs_put, ok_zs_add, ok_zs_sum, ok_zs_not_records, ok_zs_not_an_operation, ok_zs_part, ok_zs_merge, ok_zs_not_a_nest, ok_zs_abort, ok_zs_records, ok_zs_operation, ok_zs_nest, ok_z14, ok_zs_stop, ok_zs_Part, gl_KEYS, gl_HIGHEST, gl_ROUND, gl_ITEMS, gl_DEEP, gl_ENDS]
      · simp (decide := true) only [b7_0, h, eq_self, decide_true, decide_false, runFn, evSs, evS, evE, evL, evO, evB, evAndB, evOrB, evT, evAnd, evOr, evTs, sSeq, sRet, sPass, sAsg, sExpr, sIf, sRaise, sSetIx, sAug, xCall, xOfT, xAnd, xOr, xBol, xTru, xNot, xPr, xMe, xCons, xNil, xVar, xChain, xCB, xC, xIte, xTup, xLst, xDic, xSl, xAt, xNoP, okTup, okLst, getS, setS, startS, Rs.bind, Rs.then, Rt.and, boolR, truthR, truthD, okBl, asgT, asgTs, gl_ct, call_ct, fu_ct, end_next, end_exc, end_bl, end_int, end_str, end_non, end_tup, clean_bl, clean_int, clean_str, clean_non, clean_tup, nl_non, nl_bl, nl_int, nl_str, nl_tup, nl_loc, nlL_nil, nlL_cons, Bool.and_true, Bool.true_and, Bool.and_false, Bool.false_and, Bool.or_true, Bool.or_false, Bool.true_or, Bool.false_or, Bool.not_true, Bool.not_false, List.length_cons, List.length_nil, List.map_cons, List.map_nil, List.cons_append, List.nil_append, List.getElem?_cons_zero, List.getElem?_cons_succ, List.set_cons_zero, List.set_cons_succ, Nat.reduceAdd, Int.reduceSub, Int.reduceNeg, Nat.reduceSub, Nat.reduceBEq, List.replicate_succ, List.replicate_zero, if_true, if_false, reduceIte, beq_self_eq_true, cln_self, q_le, q_lt, q_gt, q_ge, q_add, q_sub, q_neg, q_abs, q_int, q_bool, q_eqI, q_neI, q_ix0, q_ix1, q_ix2, q_lenT, q_isInt, q_isBool, q_isTuple, q_isStr, p_is, tyD, tInt, tBool, tTuple, tStr, ok_zs_get, ok_zs_remove, ok_zs_put, ok_zs_add, ok_zs_sum, ok_zs_not_records, ok_zs_not_an_operation, ok_zs_part, ok_zs_merge, ok_zs_not_a_nest, ok_zs_abort, ok_zs_records, ok_zs_operation, ok_zs_nest, ok_z14, ok_zs_stop, ok_zs_Part, gl_KEYS, gl_HIGHEST, gl_ROUND, gl_ITEMS, gl_DEEP, gl_ENDS]
    rw [List.map_cons]
    unfold forF
    simp only [pt, asgT, asgTs, setS, List.set_cons_succ, List.set_cons_zero, e2, lkO]
    by_cases h : a = k
    · simp only [h, if_true]
    · simp only [h, if_false]
      exact e
theorem worth_in_eq (n : Nat) (l : List (Int × Int)) (k : Int) (m : Mem) : (callL tb (n + 1)).1 7 [recD l, .int k] m = .ok (lkD l k) m := by
  rw [call_s (fd := f7) rfl]
  obtain ⟨x', y', e⟩ := worth_loop n (recD l) k m l none none
  have rl : recD l = .tup (l.map pt) := rfl
  have it : itOf .seq [recD l] m = some (.fixed (l.map pt)) := rfl
  unfold lkD
  have e0 : ∀ fu s, forRun fu (evSs (Cn n) b7_0) (.tp [.nm 2, .nm 3]) (.fixed (l.map pt)) s m = forF (evSs (Cn n) b7_0) (.tp [.nm 2, .nm 3]) (l.map pt) s m := fun _ _ => rfl
  simp only [f7, sFor, it, e0, e, eq_self, decide_true, decide_false, runFn, evSs, evS, evE, evL, evO, evB, evAndB, evOrB, evT, evAnd, evOr, evTs, sSeq, sRet, sPass, sAsg, sExpr, sIf, sRaise, sSetIx, sAug, xCall, xOfT, xAnd, xOr, xBol, xTru, xNot, xPr, xMe, xCons, xNil, xVar, xChain, xCB, xC, xIte, xTup, xLst, xDic, xSl, xAt, xNoP, okTup, okLst, getS, setS, startS, Rs.bind, Rs.then, Rt.and, boolR, truthR, truthD, okBl, asgT, asgTs, gl_ct, call_ct, fu_ct, end_next, end_exc, end_bl, end_int, end_str, end_non, end_tup, clean_bl, clean_int, clean_str, clean_non, clean_tup, nl_non, nl_bl, nl_int, nl_str, nl_tup, nl_loc, nlL_nil, nlL_cons, Bool.and_true, Bool.true_and, Bool.and_false, Bool.false_and, Bool.or_true, Bool.or_false, Bool.true_or, Bool.false_or, Bool.not_true, Bool.not_false, List.length_cons, List.length_nil, List.map_cons, List.map_nil, List.cons_append, List.nil_append, List.getElem?_cons_zero, List.getElem?_cons_succ, List.set_cons_zero, List.set_cons_succ, Nat.reduceAdd, Int.reduceSub, Int.reduceNeg, Nat.reduceSub, Nat.reduceBEq, List.replicate_succ, List.replicate_zero, if_true, if_false, reduceIte, beq_self_eq_true, cln_self, q_le, q_lt, q_gt, q_ge, q_add, q_sub, q_neg, q_abs, q_int, q_bool, q_eqI, q_neI, q_ix0, q_ix1, q_ix2, q_lenT, q_isInt, q_isBool, q_isTuple, q_isStr, p_is, tyD, tInt, tBool, tTuple, tStr, ok_zs_get, ok_zs_remove, ok_zs_put, ok_zs_add, ok_zs_sum, ok_zs_not_records, ok_zs_not_an_operation, ok_zs_part, ok_zs_merge, ok_zs_not_a_nest, ok_zs_abort, ok_zs_records, ok_zs_operation, ok_zs_nest, ok_z14, ok_zs_stop, ok_zs_Part, gl_KEYS, gl_HIGHEST, gl_ROUND, gl_ITEMS, gl_DEEP, gl_ENDS]
  cases lkO l k <;> simp only [eq_self, decide_true, decide_false, runFn, evSs, evS, evE, evL, evO, evB, evAndB, evOrB, evT, evAnd, evOr, evTs, sSeq, sRet, sPass, sAsg, sExpr, sIf, sRaise, sSetIx, sAug, xCall, xOfT, xAnd, xOr, xBol, xTru, xNot, xPr, xMe, xCons, xNil, xVar, xChain, xCB, xC, xIte, xTup, xLst, xDic, xSl, xAt, xNoP, okTup, okLst, getS, setS, startS, Rs.bind, Rs.then, Rt.and, boolR, truthR, truthD, okBl, asgT, asgTs, gl_ct, call_ct, fu_ct, end_next, end_exc, end_bl, end_int, end_str, end_non, end_tup, clean_bl, clean_int, clean_str, clean_non, clean_tup, nl_non, nl_bl, nl_int, nl_str, nl_tup, nl_loc, nlL_nil, nlL_cons, Bool.and_true, Bool.true_and, Bool.and_false, Bool.false_and, Bool.or_true, Bool.or_false, Bool.true_or, Bool.false_or, Bool.not_true, Bool.not_false, List.length_cons, List.length_nil, List.map_cons, List.map_nil, List.cons_append, List.nil_append, List.getElem?_cons_zero, List.getElem?_cons_succ, List.set_cons_zero, List.set_cons_succ, Nat.reduceAdd, Int.reduceSub, Int.reduceNeg, Nat.reduceSub, Nat.reduceBEq, List.replicate_succ, List.replicate_zero, if_true, if_false, reduceIte, beq_self_eq_true, cln_self, q_le, q_lt, q_gt, q_ge, q_add, q_sub, q_neg, q_abs, q_int, q_bool, q_eqI, q_neI, q_ix0, q_ix1, q_ix2, q_lenT, q_isInt, q_isBool, q_isTuple, q_isStr, p_is, tyD, tInt, tBool, tTuple, tStr, ok_zs_get, ok_zs_remove, ok_zs_put, ok_zs_add, ok_zs_sum, ok_zs_not_records, ok_zs_not_an_operation, ok_zs_part, ok_zs_merge, ok_zs_not_a_nest, ok_zs_abort, ok_zs_records, ok_zs_operation, ok_zs_nest, ok_z14, ok_zs_stop, ok_zs_Part, gl_KEYS, gl_HIGHEST, gl_ROUND, gl_ITEMS, gl_DEEP, gl_ENDS]
theorem turn8 (n : Nat) (l : List (Int × Int)) (k : Int) (v a b : Option D) (p : Int × Int) (m : Mem) :
    turnE (.nm 4) [4] [some (recD l), some (.int k), v, a, b] (evTs (Cn n) t8_0) (evE (Cn n) x8_1) (pt p) m = .ok (keep1 k (pt p)) m := by
  have e : keep1 k (pt p) = if !decide (p.1 = k) then some (pt p) else none := rfl
  rw [e]
  by_cases h : p.1 = k
  · simp (decide := true) only [pt, t8_0, x8_1, h, eq_self, decide_true, decide_false, runFn, evSs, evS, evE, evL, evO, evB, evAndB, evOrB, evT, evAnd, evOr, evTs, sSeq, sRet, sPass, sAsg, sExpr, sIf, sRaise, sSetIx, sAug, xCall, xOfT, xAnd, xOr, xBol, xTru, xNot, xPr, xMe, xCons, xNil, xVar, xChain, xCB, xC, xIte, xTup, xLst, xDic, xSl, xAt, xNoP, okTup, okLst, getS, setS, startS, Rs.bind, Rs.then, Rt.and, boolR, truthR, truthD, okBl, asgT, asgTs, gl_ct, call_ct, fu_ct, end_next, end_exc, end_bl, end_int, end_str, end_non, end_tup, clean_bl, clean_int, clean_str, clean_non, clean_tup, nl_non, nl_bl, nl_int, nl_str, nl_tup, nl_loc, nlL_nil, nlL_cons, Bool.and_true, Bool.true_and, Bool.and_false, Bool.false_and, Bool.or_true, Bool.or_false, Bool.true_or, Bool.false_or, Bool.not_true, Bool.not_false, List.length_cons, List.length_nil, List.map_cons, List.map_nil, List.cons_append, List.nil_append, List.getElem?_cons_zero, List.getElem?_cons_succ, List.set_cons_zero, List.set_cons_succ, Nat.reduceAdd, Int.reduceSub, Int.reduceNeg, Nat.reduceSub, Nat.reduceBEq, List.replicate_succ, List.replicate_zero, if_true, if_false, reduceIte, beq_self_eq_true, cln_self, q_le, q_lt, q_gt, q_ge, q_add, q_sub, q_neg, q_abs, q_int, q_bool, q_eqI, q_neI, q_ix0, q_ix1, q_ix2, q_lenT, q_isInt, q_isBool, q_isTuple, q_isStr, p_is, tyD, tInt, tBool, tTuple, tStr, ok_zs_get, ok_zs_remove, ok_zs_put, ok_zs_add, ok_zs_sum, ok_zs_not_records, ok_zs_not_an_operation, ok_zs_part, ok_zs_merge, ok_zs_not_a_nest, ok_zs_abort, ok_zs_records, ok_zs_operation, ok_zs_nest, ok_z14, ok_zs_stop, ok_zs_Part, gl_KEYS, gl_HIGHEST, gl_ROUND, gl_ITEMS, gl_DEEP, gl_ENDS, xLc, itOf, itSeq, itR1, lcRun, lcF, turnE, wipeS, Rs.noexc, clnE, clean_pl, end_pl, q_px0, q_px1, cln_push, cln_push2, cln_push3, sFor, forRun]
  · simp (decide := true) only [pt, t8_0, x8_1, h, eq_self, decide_true, decide_false, runFn, evSs, evS, evE, evL, evO, evB, evAndB, evOrB, evT, evAnd, evOr, evTs, sSeq, sRet, sPass, sAsg, sExpr, sIf, sRaise, sSetIx, sAug, xCall, xOfT, xAnd, xOr, xBol, xTru, xNot, xPr, xMe, xCons, xNil, xVar, xChain, xCB, xC, xIte, xTup, xLst, xDic, xSl, xAt, xNoP, okTup, okLst, getS, setS, startS, Rs.bind, Rs.then, Rt.and, boolR, truthR, truthD, okBl, asgT, asgTs, gl_ct, call_ct, fu_ct, end_next, end_exc, end_bl, end_int, end_str, end_non, end_tup, clean_bl, clean_int, clean_str, clean_non, clean_tup, nl_non, nl_bl, nl_int, nl_str, nl_tup, nl_loc, nlL_nil, nlL_cons, Bool.and_true, Bool.true_and, Bool.and_false, Bool.false_and, Bool.or_true, Bool.or_false, Bool.true_or, Bool.false_or, Bool.not_true, Bool.not_false, List.length_cons, List.length_nil, List.map_cons, List.map_nil, List.cons_append, List.nil_append, List.getElem?_cons_zero, List.getElem?_cons_succ, List.set_cons_zero, List.set_cons_succ, Nat.reduceAdd, Int.reduceSub, Int.reduceNeg, Nat.reduceSub, Nat.reduceBEq, List.replicate_succ, List.replicate_zero, if_true, if_false, reduceIte, beq_self_eq_true, cln_self, q_le, q_lt, q_gt, q_ge, q_add, q_sub, q_neg, q_abs, q_int, q_bool, q_eqI, q_neI, q_ix0, q_ix1, q_ix2, q_lenT, q_isInt, q_isBool, q_isTuple, q_isStr, p_is, tyD, tInt, tBool, tTuple, tStr, ok_zs_get, ok_zs_remove, ok_zs_put, ok_zs_add, ok_zs_sum, ok_zs_not_records, ok_zs_not_an_operation, ok_zs_part, ok_zs_merge, ok_zs_not_a_nest, ok_zs_abort, ok_zs_records, ok_zs_operation, ok_zs_nest, ok_z14, ok_zs_stop, ok_zs_Part, gl_KEYS, gl_HIGHEST, gl_ROUND, gl_ITEMS, gl_DEEP, gl_ENDS, xLc, itOf, itSeq, itR1, lcRun, lcF, turnE, wipeS, Rs.noexc, clnE, clean_pl, end_pl, q_px0, q_px1, cln_push, cln_push2, cln_push3, sFor, forRun]
theorem c8_eq (n : Nat) (l : List (Int × Int)) (k : Int) (v a b : Option D) (m : Mem) (hz : l.length ≤ 500) : evE (Cn n) c8_2 [some (recD l), some (.int k), v, a, b] m = .ok (.loc m.len) (m.push (.lst ((l.filter fun p => !decide (p.1 = k)).map pt))) := by
  have e := lc_seqT (C := Cn n) (own := [4]) (tg := .nm 4) (i := 0) (ts := t8_0) (e := x8_1) (s := [some (recD l), some (.int k), v, a, b]) (m := m) (xs := l.map pt) (h := keep1 k) rfl fun x hx => by
    obtain ⟨p, hp, rfl⟩ := List.mem_map.mp hx
    exact turn8 n l k v a b p m
  rw [filt_pt (fun p => !decide (p.1 = k)) (keep1 k) (fun p => rfl)] at e
  refine e.trans (newL_ok ?_)
  rw [List.length_map]
  exact Nat.le_trans (List.length_filter_le _ _) (by omega)
theorem with_worth_eq (n : Nat) (l : List (Int × Int)) (k : Int) (o : Option Int) (m : Mem) (hz : l.length ≤ 500) : (callL tb (n + 1)).1 8 [recD l, .int k, oD o] m = .ok (recD (ww l k o)) m := by
  rw [call_s (fd := f8) rfl]
  have hf : (l.filter fun p => !decide (p.1 = k)).length ≤ 500 := Nat.le_trans (List.length_filter_le _ _) hz
  generalize hF : (l.filter fun p => !decide (p.1 = k)) = F at hf
  have c8 : ∀ v a b m, evE (Cn n) c8_2 [some (recD l), some (.int k), v, a, b] m = .ok (.loc m.len) (m.push (.lst (F.map pt))) := fun v a b m => by rw [← hF]; exact c8_eq n l k v a b m hz
  have na : ∀ (xs : List (Int × Int)) m, xs.length ≤ 2 → newL m (F.map pt ++ xs.map pt) = .ok (.loc m.len) (m.push (.lst ((F ++ xs).map pt))) := fun xs m h => by
    rw [← List.map_append]
    refine newL_ok ?_
    rw [List.length_map, List.length_append]
    omega
  have ns : ∀ (xs : List (Int × Int)) (m : Mem), xs.length ≤ 2 → prim .sorted [.loc m.len] (m.push (.lst ((F ++ xs).map pt))) = .ok (.loc (m.push (.lst ((F ++ xs).map pt))).len) ((m.push (.lst ((F ++ xs).map pt))).push (.lst ((isort ltP (F ++ xs)).map pt))) := fun xs m h => q_sortN m _ (by rw [List.length_append]; omega)
  have e : recD (ww l k o) = .tup ((isort ltP (F ++ addO k o)).map pt) := by unfold recD ww; rw [hF]
  rw [e]
  cases o with
  | none =>
    have n1 := na [] ((m.push (.lst (F.map pt))).push (.lst [])) (by decide)
    have s1 := ns [] ((m.push (.lst (F.map pt))).push (.lst [])) (by decide)
    simp only [List.map_nil] at n1
    simp (decide := true) only [oD, addO, f8, c8, clean_pl _ _ (pt_nl F), q_notN, q_addP, n1, s1, q_tupN, end_tup _ _ _ (pt_nl _), cln_push4, eq_self, decide_true, decide_false, runFn, evSs, evS, evE, evL, evO, evB, evAndB, evOrB, evT, evAnd, evOr, evTs, sSeq, sRet, sPass, sAsg, sExpr, sIf, sRaise, sSetIx, sAug, xCall, xOfT, xAnd, xOr, xBol, xTru, xNot, xPr, xMe, xCons, xNil, xVar, xChain, xCB, xC, xIte, xTup, xLst, xDic, xSl, xAt, xNoP, okTup, okLst, getS, setS, startS, Rs.bind, Rs.then, Rt.and, boolR, truthR, truthD, okBl, asgT, asgTs, gl_ct, call_ct, fu_ct, end_next, end_exc, end_bl, end_int, end_str, end_non, end_tup, clean_bl, clean_int, clean_str, clean_non, clean_tup, nl_non, nl_bl, nl_int, nl_str, nl_tup, nl_loc, nlL_nil, nlL_cons, Bool.and_true, Bool.true_and, Bool.and_false, Bool.false_and, Bool.or_true, Bool.or_false, Bool.true_or, Bool.false_or, Bool.not_true, Bool.not_false, List.length_cons, List.length_nil, List.map_cons, List.map_nil, List.cons_append, List.nil_append, List.getElem?_cons_zero, List.getElem?_cons_succ, List.set_cons_zero, List.set_cons_succ, Nat.reduceAdd, Int.reduceSub, Int.reduceNeg, Nat.reduceSub, Nat.reduceBEq, List.replicate_succ, List.replicate_zero, if_true, if_false, reduceIte, beq_self_eq_true, cln_self, q_le, q_lt, q_gt, q_ge, q_add, q_sub, q_neg, q_abs, q_int, q_bool, q_eqI, q_neI, q_ix0, q_ix1, q_ix2, q_lenT, q_isInt, q_isBool, q_isTuple, q_isStr, p_is, tyD, tInt, tBool, tTuple, tStr, ok_zs_get, ok_zs_remove, ok_zs_put, ok_zs_add, ok_zs_sum, ok_zs_not_records, ok_zs_not_an_operation, ok_zs_part, ok_zs_merge, ok_zs_not_a_nest, ok_zs_abort, ok_zs_records, ok_zs_operation, ok_zs_nest, ok_z14, ok_zs_stop, ok_zs_Part, gl_KEYS, gl_HIGHEST, gl_ROUND, gl_ITEMS, gl_DEEP, gl_ENDS]
  | some v =>
    have n1 := na (addO k (some v)) ((m.push (.lst (F.map pt))).push (.lst [.tup [.int k, .int v]])) (by simp [addO])
    have s1 := ns (addO k (some v)) ((m.push (.lst (F.map pt))).push (.lst [.tup [.int k, .int v]])) (by simp [addO])
    rw [← addO_pt] at n1
    simp (decide := true) only [oD, f8, c8, clean_pl _ _ (pt_nl F), q_notN, q_addP, n1, s1, q_tupN, end_tup _ _ _ (pt_nl _), cln_push4, eq_self, decide_true, decide_false, runFn, evSs, evS, evE, evL, evO, evB, evAndB, evOrB, evT, evAnd, evOr, evTs, sSeq, sRet, sPass, sAsg, sExpr, sIf, sRaise, sSetIx, sAug, xCall, xOfT, xAnd, xOr, xBol, xTru, xNot, xPr, xMe, xCons, xNil, xVar, xChain, xCB, xC, xIte, xTup, xLst, xDic, xSl, xAt, xNoP, okTup, okLst, getS, setS, startS, Rs.bind, Rs.then, Rt.and, boolR, truthR, truthD, okBl, asgT, asgTs, gl_ct, call_ct, fu_ct, end_next, end_exc, end_bl, end_int, end_str, end_non, end_tup, clean_bl, clean_int, clean_str, clean_non, clean_tup, nl_non, nl_bl, nl_int, nl_str, nl_tup, nl_loc, nlL_nil, nlL_cons, Bool.and_true, Bool.true_and, Bool.and_false, Bool.false_and, Bool.or_true, Bool.or_false, Bool.true_or, Bool.false_or, Bool.not_true, Bool.not_false, List.length_cons, List.length_nil, List.map_cons, List.map_nil, List.cons_append, List.nil_append, List.getElem?_cons_zero, List.getElem?_cons_succ, List.set_cons_zero, List.set_cons_succ, Nat.reduceAdd, Int.reduceSub, Int.reduceNeg, Nat.reduceSub, Nat.reduceBEq, List.replicate_succ, List.replicate_zero, if_true, if_false, reduceIte, beq_self_eq_true, cln_self, q_le, q_lt, q_gt, q_ge, q_add, q_sub, q_neg, q_abs, q_int, q_bool, q_eqI, q_neI, q_ix0, q_ix1, q_ix2, q_lenT, q_isInt, q_isBool, q_isTuple, q_isStr, p_is, tyD, tInt, tBool, tTuple, tStr, ok_zs_get, ok_zs_remove, ok_zs_put, ok_zs_add, ok_zs_sum, ok_zs_not_records, ok_zs_not_an_operation, ok_zs_part, ok_zs_merge, ok_zs_not_a_nest, ok_zs_abort, ok_zs_records, ok_zs_operation, ok_zs_nest, ok_z14, ok_zs_stop, ok_zs_Part, gl_KEYS, gl_HIGHEST, gl_ROUND, gl_ITEMS, gl_DEEP, gl_ENDS]
theorem rounded_eq (n : Nat) (x : Int) (m : Mem) : (callL tb (n + 1)).1 6 [.int x] m = .ok (.int (rd x)) m := by
  rw [call_s (fd := f6) rfl]
  have q : ∀ y m, prim .mod [.int y, .int 2000000001] m = .ok (.int (y % 2000000001)) m := fun y m => q_mod _ _ _ (by decide)
  simp only [f6, q, rd, eq_self, decide_true, decide_false, runFn, evSs, evS, evE, evL, evO, evB, evAndB, evOrB, evT, evAnd, evOr, evTs, sSeq, sRet, sPass, sAsg, sExpr, sIf, sRaise, sSetIx, sAug, xCall, xOfT, xAnd, xOr, xBol, xTru, xNot, xPr, xMe, xCons, xNil, xVar, xChain, xCB, xC, xIte, xTup, xLst, xDic, xSl, xAt, xNoP, okTup, okLst, getS, setS, startS, Rs.bind, Rs.then, Rt.and, boolR, truthR, truthD, okBl, asgT, asgTs, gl_ct, call_ct, fu_ct, end_next, end_exc, end_bl, end_int, end_str, end_non, end_tup, clean_bl, clean_int, clean_str, clean_non, clean_tup, nl_non, nl_bl, nl_int, nl_str, nl_tup, nl_loc, nlL_nil, nlL_cons, Bool.and_true, Bool.true_and, Bool.and_false, Bool.false_and, Bool.or_true, Bool.or_false, Bool.true_or, Bool.false_or, Bool.not_true, Bool.not_false, List.length_cons, List.length_nil, List.map_cons, List.map_nil, List.cons_append, List.nil_append, List.getElem?_cons_zero, List.getElem?_cons_succ, List.set_cons_zero, List.set_cons_succ, Nat.reduceAdd, Int.reduceSub, Int.reduceNeg, Nat.reduceSub, Nat.reduceBEq, List.replicate_succ, List.replicate_zero, if_true, if_false, reduceIte, beq_self_eq_true, cln_self, q_le, q_lt, q_gt, q_ge, q_add, q_sub, q_neg, q_abs, q_int, q_bool, q_eqI, q_neI, q_ix0, q_ix1, q_ix2, q_lenT, q_isInt, q_isBool, q_isTuple, q_isStr, p_is, tyD, tInt, tBool, tTuple, tStr, ok_zs_get, ok_zs_remove, ok_zs_put, ok_zs_add, ok_zs_sum, ok_zs_not_records, ok_zs_not_an_operation, ok_zs_part, ok_zs_merge, ok_zs_not_a_nest, ok_zs_abort, ok_zs_records, ok_zs_operation, ok_zs_nest, ok_z14, ok_zs_stop, ok_zs_Part, gl_KEYS, gl_HIGHEST, gl_ROUND, gl_ITEMS, gl_DEEP, gl_ENDS]
theorem turn9 (n : Nat) (l : List (Int × Int)) (a b : Int) (x y z w : Option D) (p : Int × Int) (m : Mem) :
    turnE (.tp [.nm 4, .nm 5]) [4, 5] [some (recD l), some (.tup [.str zs_sum, .int a, .int b]), x, some (.int a), y, z, w] (evTs (Cn n) t9_0) (evE (Cn n) x9_1) (pt p) m = .ok (keep2 a b (pt p)) m := by
  have e : keep2 a b (pt p) = if inRg a b p then some (.int p.2) else none := rfl
  rw [e]
  unfold inRg
  by_cases h1 : a ≤ p.1 <;> by_cases h2 : p.1 ≤ b <;> simp (decide := true) only [pt, t9_0, x9_1, h1, h2, eq_self, decide_true, decide_false, runFn, evSs, evS, evE, evL, evO, evB, evAndB, evOrB, evT, evAnd, evOr, evTs, sSeq, sRet, sPass, sAsg, sExpr, sIf, sRaise, sSetIx, sAug, xCall, xOfT, xAnd, xOr, xBol, xTru, xNot, xPr, xMe, xCons, xNil, xVar, xChain, xCB, xC, xIte, xTup, xLst, xDic, xSl, xAt, xNoP, okTup, okLst, getS, setS, startS, Rs.bind, Rs.then, Rt.and, boolR, truthR, truthD, okBl, asgT, asgTs, gl_ct, call_ct, fu_ct, end_next, end_exc, end_bl, end_int, end_str, end_non, end_tup, clean_bl, clean_int, clean_str, clean_non, clean_tup, nl_non, nl_bl, nl_int, nl_str, nl_tup, nl_loc, nlL_nil, nlL_cons, Bool.and_true, Bool.true_and, Bool.and_false, Bool.false_and, Bool.or_true, Bool.or_false, Bool.true_or, Bool.false_or, Bool.not_true, Bool.not_false, List.length_cons, List.length_nil, List.map_cons, List.map_nil, List.cons_append, List.nil_append, List.getElem?_cons_zero, List.getElem?_cons_succ, List.set_cons_zero, List.set_cons_succ, Nat.reduceAdd, Int.reduceSub, Int.reduceNeg, Nat.reduceSub, Nat.reduceBEq, List.replicate_succ, List.replicate_zero, if_true, if_false, reduceIte, beq_self_eq_true, cln_self, q_le, q_lt, q_gt, q_ge, q_add, q_sub, q_neg, q_abs, q_int, q_bool, q_eqI, q_neI, q_ix0, q_ix1, q_ix2, q_lenT, q_isInt, q_isBool, q_isTuple, q_isStr, p_is, tyD, tInt, tBool, tTuple, tStr, ok_zs_get, ok_zs_remove, ok_zs_put, ok_zs_add, ok_zs_sum, ok_zs_not_records, ok_zs_not_an_operation, ok_zs_part, ok_zs_merge, ok_zs_not_a_nest, ok_zs_abort, ok_zs_records, ok_zs_operation, ok_zs_nest, ok_z14, ok_zs_stop, ok_zs_Part, gl_KEYS, gl_HIGHEST, gl_ROUND, gl_ITEMS, gl_DEEP, gl_ENDS, xLc, itOf, itSeq, itR1, lcRun, lcF, turnE, wipeS, Rs.noexc, clnE, clean_pl, end_pl, q_px0, q_px1, cln_push, cln_push2, cln_push3, sFor, forRun]
theorem c9_eq (n : Nat) (l : List (Int × Int)) (a b : Int) (x y z w : Option D) (m : Mem) (hz : l.length ≤ 500) :
    evE (Cn n) c9_2 [some (recD l), some (.tup [.str zs_sum, .int a, .int b]), x, some (.int a), y, z, w] m = .ok (.loc m.len) (m.push (.lst (((l.filter (inRg a b)).map (·.2)).map D.int))) := by
  have e := lc_seqT (C := Cn n) (own := [4, 5]) (tg := .tp [.nm 4, .nm 5]) (i := 0) (ts := t9_0) (e := x9_1) (s := [some (recD l), some (.tup [.str zs_sum, .int a, .int b]), x, some (.int a), y, z, w]) (m := m) (xs := l.map pt) (h := keep2 a b) rfl fun d hd => by
    obtain ⟨p, hp, rfl⟩ := List.mem_map.mp hd
    exact turn9 n l a b x y z w p m
  rw [filt_v (inRg a b) (keep2 a b) (fun p => rfl)] at e
  refine e.trans (newL_ok ?_)
  rw [List.length_map, List.length_map]
  exact Nat.le_trans (List.length_filter_le _ _) (by omega)
theorem done_on_eq (n : Nat) (l : List (Int × Int)) (o : Op) (m : Mem) (hz : l.length ≤ 500) : (callL tb (n + 2)).1 9 [recD l, o.D] m = .ok (.tup [recD (stp l o).1, (stp l o).2]) m := by
  rw [call_s (fd := f9) rfl]
  have w1 : ∀ k v m, (callL tb (n + 1)).1 8 [recD l, .int k, .int v] m = .ok (recD (ww l k (some v))) m := fun k v m => with_worth_eq n l k (some v) m hz
  have w0 : ∀ k m, (callL tb (n + 1)).1 8 [recD l, .int k, .non] m = .ok (recD (ww l k none)) m := fun k m => with_worth_eq n l k none m hz
  cases o with
  | sum a b =>
    have c9 : ∀ x y z w m, evE (Cn (n + 1)) c9_2 [some (recD l), some (.tup [.str zs_sum, .int a, .int b]), x, some (.int a), y, z, w] m = .ok (.loc m.len) (m.push (.lst (((l.filter (inRg a b)).map (·.2)).map D.int))) := fun x y z w m => c9_eq (n + 1) l a b x y z w m hz
    simp (decide := true) only [Op.D, stp, sumR, f9, q_eqS, c9, q_sumN, end_tup, nl_recD, cln_push, eq_self, decide_true, decide_false, runFn, evSs, evS, evE, evL, evO, evB, evAndB, evOrB, evT, evAnd, evOr, evTs, sSeq, sRet, sPass, sAsg, sExpr, sIf, sRaise, sSetIx, sAug, xCall, xOfT, xAnd, xOr, xBol, xTru, xNot, xPr, xMe, xCons, xNil, xVar, xChain, xCB, xC, xIte, xTup, xLst, xDic, xSl, xAt, xNoP, okTup, okLst, getS, setS, startS, Rs.bind, Rs.then, Rt.and, boolR, truthR, truthD, okBl, asgT, asgTs, gl_ct, call_ct, fu_ct, end_next, end_exc, end_bl, end_int, end_str, end_non, end_tup, clean_bl, clean_int, clean_str, clean_non, clean_tup, nl_non, nl_bl, nl_int, nl_str, nl_tup, nl_loc, nlL_nil, nlL_cons, Bool.and_true, Bool.true_and, Bool.and_false, Bool.false_and, Bool.or_true, Bool.or_false, Bool.true_or, Bool.false_or, Bool.not_true, Bool.not_false, List.length_cons, List.length_nil, List.map_cons, List.map_nil, List.cons_append, List.nil_append, List.getElem?_cons_zero, List.getElem?_cons_succ, List.set_cons_zero, List.set_cons_succ, Nat.reduceAdd, Int.reduceSub, Int.reduceNeg, Nat.reduceSub, Nat.reduceBEq, List.replicate_succ, List.replicate_zero, if_true, if_false, reduceIte, beq_self_eq_true, cln_self, q_le, q_lt, q_gt, q_ge, q_add, q_sub, q_neg, q_abs, q_int, q_bool, q_eqI, q_neI, q_ix0, q_ix1, q_ix2, q_lenT, q_isInt, q_isBool, q_isTuple, q_isStr, p_is, tyD, tInt, tBool, tTuple, tStr, ok_zs_get, ok_zs_remove, ok_zs_put, ok_zs_add, ok_zs_sum, ok_zs_not_records, ok_zs_not_an_operation, ok_zs_part, ok_zs_merge, ok_zs_not_a_nest, ok_zs_abort, ok_zs_records, ok_zs_operation, ok_zs_nest, ok_z14, ok_zs_stop, ok_zs_Part, gl_KEYS, gl_HIGHEST, gl_ROUND, gl_ITEMS, gl_DEEP, gl_ENDS]
  | get k => simp (decide := true) only [Op.D, stp, f9, q_eqS, worth_in_eq, clean_nl (nl_lkD l k), end_tup, nl_recD, nl_lkD, eq_self, decide_true, decide_false, runFn, evSs, evS, evE, evL, evO, evB, evAndB, evOrB, evT, evAnd, evOr, evTs, sSeq, sRet, sPass, sAsg, sExpr, sIf, sRaise, sSetIx, sAug, xCall, xOfT, xAnd, xOr, xBol, xTru, xNot, xPr, xMe, xCons, xNil, xVar, xChain, xCB, xC, xIte, xTup, xLst, xDic, xSl, xAt, xNoP, okTup, okLst, getS, setS, startS, Rs.bind, Rs.then, Rt.and, boolR, truthR, truthD, okBl, asgT, asgTs, gl_ct, call_ct, fu_ct, end_next, end_exc, end_bl, end_int, end_str, end_non, end_tup, clean_bl, clean_int, clean_str, clean_non, clean_tup, nl_non, nl_bl, nl_int, nl_str, nl_tup, nl_loc, nlL_nil, nlL_cons, Bool.and_true, Bool.true_and, Bool.and_false, Bool.false_and, Bool.or_true, Bool.or_false, Bool.true_or, Bool.false_or, Bool.not_true, Bool.not_false, List.length_cons, List.length_nil, List.map_cons, List.map_nil, List.cons_append, List.nil_append, List.getElem?_cons_zero, List.getElem?_cons_succ, List.set_cons_zero, List.set_cons_succ, Nat.reduceAdd, Int.reduceSub, Int.reduceNeg, Nat.reduceSub, Nat.reduceBEq, List.replicate_succ, List.replicate_zero, if_true, if_false, reduceIte, beq_self_eq_true, cln_self, q_le, q_lt, q_gt, q_ge, q_add, q_sub, q_neg, q_abs, q_int, q_bool, q_eqI, q_neI, q_ix0, q_ix1, q_ix2, q_lenT, q_isInt, q_isBool, q_isTuple, q_isStr, p_is, tyD, tInt, tBool, tTuple, tStr, ok_zs_get, ok_zs_remove, ok_zs_put, ok_zs_add, ok_zs_sum, ok_zs_not_records, ok_zs_not_an_operation, ok_zs_part, ok_zs_merge, ok_zs_not_a_nest, ok_zs_abort, ok_zs_records, ok_zs_operation, ok_zs_nest, ok_z14, ok_zs_stop, ok_zs_Part, gl_KEYS, gl_HIGHEST, gl_ROUND, gl_ITEMS, gl_DEEP, gl_ENDS]
  | put k v => simp (decide := true) only [Op.D, stp, f9, q_eqS, worth_in_eq, clean_nl (nl_lkD l k), w1, end_tup, nl_recD, nl_lkD, eq_self, decide_true, decide_false, runFn, evSs, evS, evE, evL, evO, evB, evAndB, evOrB, evT, evAnd, evOr, evTs, sSeq, sRet, sPass, sAsg, sExpr, sIf, sRaise, sSetIx, sAug, xCall, xOfT, xAnd, xOr, xBol, xTru, xNot, xPr, xMe, xCons, xNil, xVar, xChain, xCB, xC, xIte, xTup, xLst, xDic, xSl, xAt, xNoP, okTup, okLst, getS, setS, startS, Rs.bind, Rs.then, Rt.and, boolR, truthR, truthD, okBl, asgT, asgTs, gl_ct, call_ct, fu_ct, end_next, end_exc, end_bl, end_int, end_str, end_non, end_tup, clean_bl, clean_int, clean_str, clean_non, clean_tup, nl_non, nl_bl, nl_int, nl_str, nl_tup, nl_loc, nlL_nil, nlL_cons, Bool.and_true, Bool.true_and, Bool.and_false, Bool.false_and, Bool.or_true, Bool.or_false, Bool.true_or, Bool.false_or, Bool.not_true, Bool.not_false, List.length_cons, List.length_nil, List.map_cons, List.map_nil, List.cons_append, List.nil_append, List.getElem?_cons_zero, List.getElem?_cons_succ, List.set_cons_zero, List.set_cons_succ, Nat.reduceAdd, Int.reduceSub, Int.reduceNeg, Nat.reduceSub, Nat.reduceBEq, List.replicate_succ, List.replicate_zero, if_true, if_false, reduceIte, beq_self_eq_true, cln_self, q_le, q_lt, q_gt, q_ge, q_add, q_sub, q_neg, q_abs, q_int, q_bool, q_eqI, q_neI, q_ix0, q_ix1, q_ix2, q_lenT, q_isInt, q_isBool, q_isTuple, q_isStr, p_is, tyD, tInt, tBool, tTuple, tStr, ok_zs_get, ok_zs_remove, ok_zs_put, ok_zs_add, ok_zs_sum, ok_zs_not_records, ok_zs_not_an_operation, ok_zs_part, ok_zs_merge, ok_zs_not_a_nest, ok_zs_abort, ok_zs_records, ok_zs_operation, ok_zs_nest, ok_z14, ok_zs_stop, ok_zs_Part, gl_KEYS, gl_HIGHEST, gl_ROUND, gl_ITEMS, gl_DEEP, gl_ENDS]
  | rem k => simp (decide := true) only [Op.D, stp, f9, q_eqS, worth_in_eq, clean_nl (nl_lkD l k), w0, end_tup, nl_recD, nl_lkD, eq_self, decide_true, decide_false, runFn, evSs, evS, evE, evL, evO, evB, evAndB, evOrB, evT, evAnd, evOr, evTs, sSeq, sRet, sPass, sAsg, sExpr, sIf, sRaise, sSetIx, sAug, xCall, xOfT, xAnd, xOr, xBol, xTru, xNot, xPr, xMe, xCons, xNil, xVar, xChain, xCB, xC, xIte, xTup, xLst, xDic, xSl, xAt, xNoP, okTup, okLst, getS, setS, startS, Rs.bind, Rs.then, Rt.and, boolR, truthR, truthD, okBl, asgT, asgTs, gl_ct, call_ct, fu_ct, end_next, end_exc, end_bl, end_int, end_str, end_non, end_tup, clean_bl, clean_int, clean_str, clean_non, clean_tup, nl_non, nl_bl, nl_int, nl_str, nl_tup, nl_loc, nlL_nil, nlL_cons, Bool.and_true, Bool.true_and, Bool.and_false, Bool.false_and, Bool.or_true, Bool.or_false, Bool.true_or, Bool.false_or, Bool.not_true, Bool.not_false, List.length_cons, List.length_nil, List.map_cons, List.map_nil, List.cons_append, List.nil_append, List.getElem?_cons_zero, List.getElem?_cons_succ, List.set_cons_zero, List.set_cons_succ, Nat.reduceAdd, Int.reduceSub, Int.reduceNeg, Nat.reduceSub, Nat.reduceBEq, List.replicate_succ, List.replicate_zero, if_true, if_false, reduceIte, beq_self_eq_true, cln_self, q_le, q_lt, q_gt, q_ge, q_add, q_sub, q_neg, q_abs, q_int, q_bool, q_eqI, q_neI, q_ix0, q_ix1, q_ix2, q_lenT, q_isInt, q_isBool, q_isTuple, q_isStr, p_is, tyD, tInt, tBool, tTuple, tStr, ok_zs_get, ok_zs_remove, ok_zs_put, ok_zs_add, ok_zs_sum, ok_zs_not_records, ok_zs_not_an_operation, ok_zs_part, ok_zs_merge, ok_zs_not_a_nest, ok_zs_abort, ok_zs_records, ok_zs_operation, ok_zs_nest, ok_z14, ok_zs_stop, ok_zs_Part, gl_KEYS, gl_HIGHEST, gl_ROUND, gl_ITEMS, gl_DEEP, gl_ENDS]
  | add k x =>
    cases hl : lkO l k with
    | none =>
      have e : lkD l k = .non := by unfold lkD; rw [hl]
      simp (decide := true) only [Op.D, stp, hl, e, f9, q_eqS, q_isN, worth_in_eq, end_tup, nl_recD, eq_self, decide_true, decide_false, runFn, evSs, evS, evE, evL, evO, evB, evAndB, evOrB, evT, evAnd, evOr, evTs, sSeq, sRet, sPass, sAsg, sExpr, sIf, sRaise, sSetIx, sAug, xCall, xOfT, xAnd, xOr, xBol, xTru, xNot, xPr, xMe, xCons, xNil, xVar, xChain, xCB, xC, xIte, xTup, xLst, xDic, xSl, xAt, xNoP, okTup, okLst, getS, setS, startS, Rs.bind, Rs.then, Rt.and, boolR, truthR, truthD, okBl, asgT, asgTs, gl_ct, call_ct, fu_ct, end_next, end_exc, end_bl, end_int, end_str, end_non, end_tup, clean_bl, clean_int, clean_str, clean_non, clean_tup, nl_non, nl_bl, nl_int, nl_str, nl_tup, nl_loc, nlL_nil, nlL_cons, Bool.and_true, Bool.true_and, Bool.and_false, Bool.false_and, Bool.or_true, Bool.or_false, Bool.true_or, Bool.false_or, Bool.not_true, Bool.not_false, List.length_cons, List.length_nil, List.map_cons, List.map_nil, List.cons_append, List.nil_append, List.getElem?_cons_zero, List.getElem?_cons_succ, List.set_cons_zero, List.set_cons_succ, Nat.reduceAdd, Int.reduceSub, Int.reduceNeg, Nat.reduceSub, Nat.reduceBEq, List.replicate_succ, List.replicate_zero, if_true, if_false, reduceIte, beq_self_eq_true, cln_self, q_le, q_lt, q_gt, q_ge, q_add, q_sub, q_neg, q_abs, q_int, q_bool, q_eqI, q_neI, q_ix0, q_ix1, q_ix2, q_lenT, q_isInt, q_isBool, q_isTuple, q_isStr, p_is, tyD, tInt, tBool, tTuple, tStr, ok_zs_get, ok_zs_remove, ok_zs_put, ok_zs_add, ok_zs_sum, ok_zs_not_records, ok_zs_not_an_operation, ok_zs_part, ok_zs_merge, ok_zs_not_a_nest, ok_zs_abort, ok_zs_records, ok_zs_operation, ok_zs_nest, ok_z14, ok_zs_stop, ok_zs_Part, gl_KEYS, gl_HIGHEST, gl_ROUND, gl_ITEMS, gl_DEEP, gl_ENDS]
    | some b =>
      have e : lkD l k = .int b := by unfold lkD; rw [hl]
      simp (decide := true) only [Op.D, stp, hl, e, f9, q_eqS, q_isN, worth_in_eq, rounded_eq, w1, end_tup, nl_recD, eq_self, decide_true, decide_false, runFn, evSs, evS, evE, evL, evO, evB, evAndB, evOrB, evT, evAnd, evOr, evTs, sSeq, sRet, sPass, sAsg, sExpr, sIf, sRaise, sSetIx, sAug, xCall, xOfT, xAnd, xOr, xBol, xTru, xNot, xPr, xMe, xCons, xNil, xVar, xChain, xCB, xC, xIte, xTup, xLst, xDic, xSl, xAt, xNoP, okTup, okLst, getS, setS, startS, Rs.bind, Rs.then, Rt.and, boolR, truthR, truthD, okBl, asgT, asgTs, gl_ct, call_ct, fu_ct, end_next, end_exc, end_bl, end_int, end_str, end_non, end_tup, clean_bl, clean_int, clean_str, clean_non, clean_tup, nl_non, nl_bl, nl_int, nl_str, nl_tup, nl_loc, nlL_nil, nlL_cons, Bool.and_true, Bool.true_and, Bool.and_false, Bool.false_and, Bool.or_true, Bool.or_false, Bool.true_or, Bool.false_or, Bool.not_true, Bool.not_false, List.length_cons, List.length_nil, List.map_cons, List.map_nil, List.cons_append, List.nil_append, List.getElem?_cons_zero, List.getElem?_cons_succ, List.set_cons_zero, List.set_cons_succ, Nat.reduceAdd, Int.reduceSub, Int.reduceNeg, Nat.reduceSub, Nat.reduceBEq, List.replicate_succ, List.replicate_zero, if_true, if_false, reduceIte, beq_self_eq_true, cln_self, q_le, q_lt, q_gt, q_ge, q_add, q_sub, q_neg, q_abs, q_int, q_bool, q_eqI, q_neI, q_ix0, q_ix1, q_ix2, q_lenT, q_isInt, q_isBool, q_isTuple, q_isStr, p_is, tyD, tInt, tBool, tTuple, tStr, ok_zs_get, ok_zs_remove, ok_zs_put, ok_zs_add, ok_zs_sum, ok_zs_not_records, ok_zs_not_an_operation, ok_zs_part, ok_zs_merge, ok_zs_not_a_nest, ok_zs_abort, ok_zs_records, ok_zs_operation, ok_zs_nest, ok_z14, ok_zs_stop, ok_zs_Part, gl_KEYS, gl_HIGHEST, gl_ROUND, gl_ITEMS, gl_DEEP, gl_ENDS]
theorem need_recs (n : Nat) (l : List (Int × Int)) (h : Can l) (hz : l.length ≤ 64) (m : Mem) : (callL tb (n + 4)).1 10 [recD l] m = .ok .non m := by
  rw [call_s (fd := f10) rfl]
  simp only [f10, fits_recs _ l h hz, eq_self, decide_true, decide_false, runFn, evSs, evS, evE, evL, evO, evB, evAndB, evOrB, evT, evAnd, evOr, evTs, sSeq, sRet, sPass, sAsg, sExpr, sIf, sRaise, sSetIx, sAug, xCall, xOfT, xAnd, xOr, xBol, xTru, xNot, xPr, xMe, xCons, xNil, xVar, xChain, xCB, xC, xIte, xTup, xLst, xDic, xSl, xAt, xNoP, okTup, okLst, getS, setS, startS, Rs.bind, Rs.then, Rt.and, boolR, truthR, truthD, okBl, asgT, asgTs, gl_ct, call_ct, fu_ct, end_next, end_exc, end_bl, end_int, end_str, end_non, end_tup, clean_bl, clean_int, clean_str, clean_non, clean_tup, nl_non, nl_bl, nl_int, nl_str, nl_tup, nl_loc, nlL_nil, nlL_cons, Bool.and_true, Bool.true_and, Bool.and_false, Bool.false_and, Bool.or_true, Bool.or_false, Bool.true_or, Bool.false_or, Bool.not_true, Bool.not_false, List.length_cons, List.length_nil, List.map_cons, List.map_nil, List.cons_append, List.nil_append, List.getElem?_cons_zero, List.getElem?_cons_succ, List.set_cons_zero, List.set_cons_succ, Nat.reduceAdd, Int.reduceSub, Int.reduceNeg, Nat.reduceSub, Nat.reduceBEq, List.replicate_succ, List.replicate_zero, if_true, if_false, reduceIte, beq_self_eq_true, cln_self, q_le, q_lt, q_gt, q_ge, q_add, q_sub, q_neg, q_abs, q_int, q_bool, q_eqI, q_neI, q_ix0, q_ix1, q_ix2, q_lenT, q_isInt, q_isBool, q_isTuple, q_isStr, p_is, tyD, tInt, tBool, tTuple, tStr, ok_zs_get, ok_zs_remove, ok_zs_put, ok_zs_add, ok_zs_sum, ok_zs_not_records, ok_zs_not_an_operation, ok_zs_part, ok_zs_merge, ok_zs_not_a_nest, ok_zs_abort, ok_zs_records, ok_zs_operation, ok_zs_nest, ok_z14, ok_zs_stop, ok_zs_Part, gl_KEYS, gl_HIGHEST, gl_ROUND, gl_ITEMS, gl_DEEP, gl_ENDS]
theorem do_op_eq (n : Nat) (l : List (Int × Int)) (o : Op) (h : Can l) (hz : l.length ≤ 64) (ho : o.ok) (m : Mem) : (callL tb (n + 5)).1 12 [recD l, o.D] m = .ok (.tup [recD (stp l o).1, (stp l o).2]) m := by
  rw [call_s (fd := f12) rfl]
  have hn : D.nlL [recD (stp l o).1, (stp l o).2] = true := by
    rw [nlL_cons, nl_recD, nlL_cons, nlL_nil, nl_stp]
    rfl
  have hz2 : l.length ≤ 500 := by omega
  simp only [f12, need_recs _ l h hz, need_op _ o ho, done_on_eq _ l o _ hz2, end_tup _ _ _ hn, eq_self, decide_true, decide_false, runFn, evSs, evS, evE, evL, evO, evB, evAndB, evOrB, evT, evAnd, evOr, evTs, sSeq, sRet, sPass, sAsg, sExpr, sIf, sRaise, sSetIx, sAug, xCall, xOfT, xAnd, xOr, xBol, xTru, xNot, xPr, xMe, xCons, xNil, xVar, xChain, xCB, xC, xIte, xTup, xLst, xDic, xSl, xAt, xNoP, okTup, okLst, getS, setS, startS, Rs.bind, Rs.then, Rt.and, boolR, truthR, truthD, okBl, asgT, asgTs, gl_ct, call_ct, fu_ct, end_next, end_exc, end_bl, end_int, end_str, end_non, end_tup, clean_bl, clean_int, clean_str, clean_non, clean_tup, nl_non, nl_bl, nl_int, nl_str, nl_tup, nl_loc, nlL_nil, nlL_cons, Bool.and_true, Bool.true_and, Bool.and_false, Bool.false_and, Bool.or_true, Bool.or_false, Bool.true_or, Bool.false_or, Bool.not_true, Bool.not_false, List.length_cons, List.length_nil, List.map_cons, List.map_nil, List.cons_append, List.nil_append, List.getElem?_cons_zero, List.getElem?_cons_succ, List.set_cons_zero, List.set_cons_succ, Nat.reduceAdd, Int.reduceSub, Int.reduceNeg, Nat.reduceSub, Nat.reduceBEq, List.replicate_succ, List.replicate_zero, if_true, if_false, reduceIte, beq_self_eq_true, cln_self, q_le, q_lt, q_gt, q_ge, q_add, q_sub, q_neg, q_abs, q_int, q_bool, q_eqI, q_neI, q_ix0, q_ix1, q_ix2, q_lenT, q_isInt, q_isBool, q_isTuple, q_isStr, p_is, tyD, tInt, tBool, tTuple, tStr, ok_zs_get, ok_zs_remove, ok_zs_put, ok_zs_add, ok_zs_sum, ok_zs_not_records, ok_zs_not_an_operation, ok_zs_part, ok_zs_merge, ok_zs_not_a_nest, ok_zs_abort, ok_zs_records, ok_zs_operation, ok_zs_nest, ok_z14, ok_zs_stop, ok_zs_Part, gl_KEYS, gl_HIGHEST, gl_ROUND, gl_ITEMS, gl_DEEP, gl_ENDS]
end T02

set_option Elab.async false
set_option linter.all false
set_option maxRecDepth 100000
set_option maxHeartbeats 1000000
namespace T02
open NV PySem
theorem roll_eq (n : Nat) (c : Cup) (rs : List Ob) (e : List (Nat × Nat)) (k : Int) (h : 0 < k ∧ k < 1073741824) : (callL tb (n + 1)).1 23 [.loc 0, .int k] (cm c rs e) = .ok (.int (c.r k)) (cm (c.nx k) rs e) := by
  rw [call_s (fd := f23) rfl]
  by_cases ha : 0 < c.a
  · have hd : 0 ≤ c.a / k := Int.ediv_nonneg c.ha (Int.le_of_lt h.1)
    have e1 : c.nx k = ⟨c.a / k, c.b, hd, c.hb⟩ := by unfold Cup.nx; rw [dif_pos ⟨ha, h.1⟩]
    have e2 : c.r k = c.a % k := by unfold Cup.r; rw [if_pos ha]
    rw [e1, e2]
    simp only [f23, cm_q0, cm_q1, q_mod _ _ _ h.1, q_fdiv _ _ _ h, cm_s0 _ _ _ _ hd, sSetIx, memT, cm_cln, ha, eq_self, decide_true, decide_false, runFn, evSs, evS, evE, evL, evO, evB, evAndB, evOrB, evT, evAnd, evOr, evTs, sSeq, sRet, sPass, sAsg, sExpr, sIf, sRaise, sSetIx, sAug, xCall, xOfT, xAnd, xOr, xBol, xTru, xNot, xPr, xMe, xCons, xNil, xVar, xChain, xCB, xC, xIte, xTup, xLst, xDic, xSl, xAt, xNoP, okTup, okLst, getS, setS, startS, Rs.bind, Rs.then, Rt.and, boolR, truthR, truthD, okBl, asgT, asgTs, gl_ct, call_ct, fu_ct, end_next, end_exc, end_bl, end_int, end_str, end_non, end_tup, clean_bl, clean_int, clean_str, clean_non, clean_tup, nl_non, nl_bl, nl_int, nl_str, nl_tup, nl_loc, nlL_nil, nlL_cons, Bool.and_true, Bool.true_and, Bool.and_false, Bool.false_and, Bool.or_true, Bool.or_false, Bool.true_or, Bool.false_or, Bool.not_true, Bool.not_false, List.length_cons, List.length_nil, List.map_cons, List.map_nil, List.cons_append, List.nil_append, List.getElem?_cons_zero, List.getElem?_cons_succ, List.set_cons_zero, List.set_cons_succ, Nat.reduceAdd, Int.reduceSub, Int.reduceNeg, Nat.reduceSub, Nat.reduceBEq, List.replicate_succ, List.replicate_zero, if_true, if_false, reduceIte, beq_self_eq_true, cln_self, q_le, q_lt, q_gt, q_ge, q_add, q_sub, q_neg, q_abs, q_int, q_bool, q_eqI, q_neI, q_ix0, q_ix1, q_ix2, q_lenT, q_isInt, q_isBool, q_isTuple, q_isStr, p_is, tyD, tInt, tBool, tTuple, tStr, ok_zs_get, ok_zs_remove, ok_zs_put, ok_zs_add, ok_zs_sum, ok_zs_not_records, ok_zs_not_an_operation, ok_zs_part, ok_zs_merge, ok_zs_not_a_nest, ok_zs_abort, ok_zs_records, ok_zs_operation, ok_zs_nest, ok_z14, ok_zs_stop, ok_zs_Part, gl_KEYS, gl_HIGHEST, gl_ROUND, gl_ITEMS, gl_DEEP, gl_ENDS]
  · have hb := c.b2_ok
    have e1 : c.nx k = ⟨c.a, c.b2, c.ha, hb⟩ := by unfold Cup.nx; rw [dif_neg (fun z => ha z.1)]
    have e2 : c.r k = (c.b2 * (c.b2 + 269) % 2147483587 / 859) % k := by unfold Cup.r; rw [if_neg ha]
    rw [e1, e2]
    have m1 : ∀ m, prim .mul [.int c.b, .int 31121] m = .ok (.int (c.b * 31121)) m := fun m => q_mul _ _ _ (.inr (by decide))
    have m2 : ∀ m, prim .mod [.int (c.b * 31121 + 8069), .int 2147483353] m = .ok (.int c.b2) m := fun m => q_mod _ _ _ (by decide)
    have m3 : ∀ m, prim .mul [.int c.b2, .int (c.b2 + 269)] m = .ok (.int (c.b2 * (c.b2 + 269))) m := fun m => q_mul _ _ _ (.inl (by omega))
    have m4 : ∀ (x : Int) m, prim .mod [.int x, .int 2147483587] m = .ok (.int (x % 2147483587)) m := fun x m => q_mod _ _ _ (by decide)
    have m5 : ∀ (x : Int) m, prim .fdiv [.int x, .int 859] m = .ok (.int (x / 859)) m := fun x m => q_fdiv _ _ _ (by decide)
    have q1 : prim .idx [.loc 0, .int 1] (cm ⟨c.a, c.b2, c.ha, hb⟩ rs e) = .ok (.int c.b2) (cm ⟨c.a, c.b2, c.ha, hb⟩ rs e) := cm_q1 _ _ _
    simp only [f23, cm_q0, q1, cm_q1 c, m1, m2, m3, m4, m5, q_mod _ _ _ h.1, cm_s1 _ _ _ _ hb, sSetIx, memT, cm_cln, ha, eq_self, decide_true, decide_false, runFn, evSs, evS, evE, evL, evO, evB, evAndB, evOrB, evT, evAnd, evOr, evTs, sSeq, sRet, sPass, sAsg, sExpr, sIf, sRaise, sSetIx, sAug, xCall, xOfT, xAnd, xOr, xBol, xTru, xNot, xPr, xMe, xCons, xNil, xVar, xChain, xCB, xC, xIte, xTup, xLst, xDic, xSl, xAt, xNoP, okTup, okLst, getS, setS, startS, Rs.bind, Rs.then, Rt.and, boolR, truthR, truthD, okBl, asgT, asgTs, gl_ct, call_ct, fu_ct, end_next, end_exc, end_bl, end_int, end_str, end_non, end_tup, clean_bl, clean_int, clean_str, clean_non, clean_tup, nl_non, nl_bl, nl_int, nl_str, nl_tup, nl_loc, nlL_nil, nlL_cons, Bool.and_true, Bool.true_and, Bool.and_false, Bool.false_and, Bool.or_true, Bool.or_false, Bool.true_or, Bool.false_or, Bool.not_true, Bool.not_false, List.length_cons, List.length_nil, List.map_cons, List.map_nil, List.cons_append, List.nil_append, List.getElem?_cons_zero, List.getElem?_cons_succ, List.set_cons_zero, List.set_cons_succ, Nat.reduceAdd, Int.reduceSub, Int.reduceNeg, Nat.reduceSub, Nat.reduceBEq, List.replicate_succ, List.replicate_zero, if_true, if_false, reduceIte, beq_self_eq_true, cln_self, q_le, q_lt, q_gt, q_ge, q_add, q_sub, q_neg, q_abs, q_int, q_bool, q_eqI, q_neI, q_ix0, q_ix1, q_ix2, q_lenT, q_isInt, q_isBool, q_isTuple, q_isStr, p_is, tyD, tInt, tBool, tTuple, tStr, ok_zs_get, ok_zs_remove, ok_zs_put, ok_zs_add, ok_zs_sum, ok_zs_not_records, ok_zs_not_an_operation, ok_zs_part, ok_zs_merge, ok_zs_not_a_nest, ok_zs_abort, ok_zs_records, ok_zs_operation, ok_zs_nest, ok_z14, ok_zs_stop, ok_zs_Part, gl_KEYS, gl_HIGHEST, gl_ROUND, gl_ITEMS, gl_DEEP, gl_ENDS]
theorem some_eq (n : Nat) (c : Cup) (rs : List Ob) (e : List (Nat × Nat)) (xs : List D) (hx : 0 < xs.length ∧ xs.length < 1000) (hn : D.nlL xs = true) :
    (callL tb (n + 2)).1 24 [.loc 0, .loc (rs.length + 1)] (cm c (rs ++ [.lst xs]) e) = .ok (c.pick xs) (cm (c.nx xs.length) (rs ++ [.lst xs]) e) := by
  rw [call_s (fd := f24) rfl]
  have hk : (0 : Int) < xs.length ∧ (xs.length : Int) < 1073741824 := by omega
  have hp := nlL_mem hn _ (c.pick_mem hx.1)
  have q : prim .idx [.loc (rs.length + 1), .int (c.r xs.length)] (cm (c.nx xs.length) (rs ++ [.lst xs]) e) = .ok (c.pick xs) (cm (c.nx xs.length) (rs ++ [.lst xs]) e) := by
    rw [q_idxL _ (cm_getL _ _ _ _), at_in (c.r_ge hk.1) (c.r_lt hk.1)]
    rfl
  simp only [f24, q_lenL (cm_getL c rs (.lst xs) e), roll_eq _ _ _ _ _ hk, q, end_ret hp, cm_cln, eq_self, decide_true, decide_false, runFn, evSs, evS, evE, evL, evO, evB, evAndB, evOrB, evT, evAnd, evOr, evTs, sSeq, sRet, sPass, sAsg, sExpr, sIf, sRaise, sSetIx, sAug, xCall, xOfT, xAnd, xOr, xBol, xTru, xNot, xPr, xMe, xCons, xNil, xVar, xChain, xCB, xC, xIte, xTup, xLst, xDic, xSl, xAt, xNoP, okTup, okLst, getS, setS, startS, Rs.bind, Rs.then, Rt.and, boolR, truthR, truthD, okBl, asgT, asgTs, gl_ct, call_ct, fu_ct, end_next, end_exc, end_bl, end_int, end_str, end_non, end_tup, clean_bl, clean_int, clean_str, clean_non, clean_tup, nl_non, nl_bl, nl_int, nl_str, nl_tup, nl_loc, nlL_nil, nlL_cons, Bool.and_true, Bool.true_and, Bool.and_false, Bool.false_and, Bool.or_true, Bool.or_false, Bool.true_or, Bool.false_or, Bool.not_true, Bool.not_false, List.length_cons, List.length_nil, List.map_cons, List.map_nil, List.cons_append, List.nil_append, List.getElem?_cons_zero, List.getElem?_cons_succ, List.set_cons_zero, List.set_cons_succ, Nat.reduceAdd, Int.reduceSub, Int.reduceNeg, Nat.reduceSub, Nat.reduceBEq, List.replicate_succ, List.replicate_zero, if_true, if_false, reduceIte, beq_self_eq_true, cln_self, q_le, q_lt, q_gt, q_ge, q_add, q_sub, q_neg, q_abs, q_int, q_bool, q_eqI, q_neI, q_ix0, q_ix1, q_ix2, q_lenT, q_isInt, q_isBool, q_isTuple, q_isStr, p_is, tyD, tInt, tBool, tTuple, tStr, ok_zs_get, ok_zs_remove, ok_zs_put, ok_zs_add, ok_zs_sum, ok_zs_not_records, ok_zs_not_an_operation, ok_zs_part, ok_zs_merge, ok_zs_not_a_nest, ok_zs_abort, ok_zs_records, ok_zs_operation, ok_zs_nest, ok_z14, ok_zs_stop, ok_zs_Part, gl_KEYS, gl_HIGHEST, gl_ROUND, gl_ITEMS, gl_DEEP, gl_ENDS]
theorem law_op (n : Nat) (c : Cup) (rs : List Ob) (e : List (Nat × Nat)) (k : Int) (hk : 0 < k ∧ k ≤ 64) : ∃ (o : Op) (c' : Cup), o.ok ∧ (callL tb (n + 3)).1 28 [.loc 0, .int k] (cm c rs e) = .ok o.D (cm c' rs e) := by
  rw [call_s (fd := f28) rfl]
  have k1 : 0 < k ∧ k < 1073741824 := by omega
  have k2 : (0 : Int) < 10 ∧ (10 : Int) < 1073741824 := by decide
  have r1 := c.r_ge k1.1
  have r2 := c.r_lt k1.1
  have w1 := (c.nx k).r_ge k2.1
  have w2 := (c.nx k).r_lt k2.1
  generalize hw : (c.nx k).r 10 = w at w1 w2
  generalize hq : c.r k = q at r1 r2
  by_cases a1 : w < 3
  · obtain ⟨v, p1, p2⟩ := ((c.nx k).nx 10).pick_int (xs := [.int 0, .int 1, .int 2, .int 7, .int (-3), .int 1000000000, .int (-1000000000), .int 40]) (p := fun v => -1000000000 ≤ v ∧ v ≤ 1000000000) (by decide) (by simp)
    refine ⟨.put q v, ((c.nx k).nx 10).nx 8, ⟨r1, by omega, p2⟩, ?_⟩
    simp (decide := true) only [f28, roll_eq _ _ _ _ _ k1, roll_eq _ _ _ _ _ k2, hw, hq, a1, pow9, cm_len, cm_push, some_eq, p1, Op.D, cm_cln, cm_cln1, eq_self, decide_true, decide_false, runFn, evSs, evS, evE, evL, evO, evB, evAndB, evOrB, evT, evAnd, evOr, evTs, sSeq, sRet, sPass, sAsg, sExpr, sIf, sRaise, sSetIx, sAug, xCall, xOfT, xAnd, xOr, xBol, xTru, xNot, xPr, xMe, xCons, xNil, xVar, xChain, xCB, xC, xIte, xTup, xLst, xDic, xSl, xAt, xNoP, okTup, okLst, getS, setS, startS, Rs.bind, Rs.then, Rt.and, boolR, truthR, truthD, okBl, asgT, asgTs, gl_ct, call_ct, fu_ct, end_next, end_exc, end_bl, end_int, end_str, end_non, end_tup, clean_bl, clean_int, clean_str, clean_non, clean_tup, nl_non, nl_bl, nl_int, nl_str, nl_tup, nl_loc, nlL_nil, nlL_cons, Bool.and_true, Bool.true_and, Bool.and_false, Bool.false_and, Bool.or_true, Bool.or_false, Bool.true_or, Bool.false_or, Bool.not_true, Bool.not_false, List.length_cons, List.length_nil, List.map_cons, List.map_nil, List.cons_append, List.nil_append, List.getElem?_cons_zero, List.getElem?_cons_succ, List.set_cons_zero, List.set_cons_succ, Nat.reduceAdd, Int.reduceSub, Int.reduceNeg, Nat.reduceSub, Nat.reduceBEq, List.replicate_succ, List.replicate_zero, if_true, if_false, reduceIte, beq_self_eq_true, cln_self, q_le, q_lt, q_gt, q_ge, q_add, q_sub, q_neg, q_abs, q_int, q_bool, q_eqI, q_neI, q_ix0, q_ix1, q_ix2, q_lenT, q_isInt, q_isBool, q_isTuple, q_isStr, p_is, tyD, tInt, tBool, tTuple, tStr, ok_zs_get, ok_zs_remove, ok_zs_put, ok_zs_add, ok_zs_sum, ok_zs_not_records, ok_zs_not_an_operation, ok_zs_part, ok_zs_merge, ok_zs_not_a_nest, ok_zs_abort, ok_zs_records, ok_zs_operation, ok_zs_nest, ok_z14, ok_zs_stop, ok_zs_Part, gl_KEYS, gl_HIGHEST, gl_ROUND, gl_ITEMS, gl_DEEP, gl_ENDS]
    rfl
  by_cases a2 : w < 5
  · obtain ⟨v, p1, p2⟩ := ((c.nx k).nx 10).pick_int (xs := [.int 1, .int 2, .int (-5), .int 1000000000, .int (-1000000000), .int 0]) (p := fun v => -1000000000 ≤ v ∧ v ≤ 1000000000) (by decide) (by simp)
    refine ⟨.add q v, ((c.nx k).nx 10).nx 6, ⟨r1, by omega, p2⟩, ?_⟩
    simp (decide := true) only [f28, roll_eq _ _ _ _ _ k1, roll_eq _ _ _ _ _ k2, hw, hq, a1, a2, pow9, cm_len, cm_push, some_eq, p1, Op.D, cm_cln, cm_cln1, eq_self, decide_true, decide_false, runFn, evSs, evS, evE, evL, evO, evB, evAndB, evOrB, evT, evAnd, evOr, evTs, sSeq, sRet, sPass, sAsg, sExpr, sIf, sRaise, sSetIx, sAug, xCall, xOfT, xAnd, xOr, xBol, xTru, xNot, xPr, xMe, xCons, xNil, xVar, xChain, xCB, xC, xIte, xTup, xLst, xDic, xSl, xAt, xNoP, okTup, okLst, getS, setS, startS, Rs.bind, Rs.then, Rt.and, boolR, truthR, truthD, okBl, asgT, asgTs, gl_ct, call_ct, fu_ct, end_next, end_exc, end_bl, end_int, end_str, end_non, end_tup, clean_bl, clean_int, clean_str, clean_non, clean_tup, nl_non, nl_bl, nl_int, nl_str, nl_tup, nl_loc, nlL_nil, nlL_cons, Bool.and_true, Bool.true_and, Bool.and_false, Bool.false_and, Bool.or_true, Bool.or_false, Bool.true_or, Bool.false_or, Bool.not_true, Bool.not_false, List.length_cons, List.length_nil, List.map_cons, List.map_nil, List.cons_append, List.nil_append, List.getElem?_cons_zero, List.getElem?_cons_succ, List.set_cons_zero, List.set_cons_succ, Nat.reduceAdd, Int.reduceSub, Int.reduceNeg, Nat.reduceSub, Nat.reduceBEq, List.replicate_succ, List.replicate_zero, if_true, if_false, reduceIte, beq_self_eq_true, cln_self, q_le, q_lt, q_gt, q_ge, q_add, q_sub, q_neg, q_abs, q_int, q_bool, q_eqI, q_neI, q_ix0, q_ix1, q_ix2, q_lenT, q_isInt, q_isBool, q_isTuple, q_isStr, p_is, tyD, tInt, tBool, tTuple, tStr, ok_zs_get, ok_zs_remove, ok_zs_put, ok_zs_add, ok_zs_sum, ok_zs_not_records, ok_zs_not_an_operation, ok_zs_part, ok_zs_merge, ok_zs_not_a_nest, ok_zs_abort, ok_zs_records, ok_zs_operation, ok_zs_nest, ok_z14, ok_zs_stop, ok_zs_Part, gl_KEYS, gl_HIGHEST, gl_ROUND, gl_ITEMS, gl_DEEP, gl_ENDS]
    rfl
  by_cases a3 : w < 7
  · by_cases a4 : w = 5
    · refine ⟨.get q, (c.nx k).nx 10, ⟨r1, by omega⟩, ?_⟩
      simp (decide := true) only [f28, roll_eq _ _ _ _ _ k1, roll_eq _ _ _ _ _ k2, hw, hq, a1, a2, a3, a4, Op.D, cm_cln, cm_cln1, eq_self, decide_true, decide_false, runFn, evSs, evS, evE, evL, evO, evB, evAndB, evOrB, evT, evAnd, evOr, evTs, sSeq, sRet, sPass, sAsg, sExpr, sIf, sRaise, sSetIx, sAug, xCall, xOfT, xAnd, xOr, xBol, xTru, xNot, xPr, xMe, xCons, xNil, xVar, xChain, xCB, xC, xIte, xTup, xLst, xDic, xSl, xAt, xNoP, okTup, okLst, getS, setS, startS, Rs.bind, Rs.then, Rt.and, boolR, truthR, truthD, okBl, asgT, asgTs, gl_ct, call_ct, fu_ct, end_next, end_exc, end_bl, end_int, end_str, end_non, end_tup, clean_bl, clean_int, clean_str, clean_non, clean_tup, nl_non, nl_bl, nl_int, nl_str, nl_tup, nl_loc, nlL_nil, nlL_cons, Bool.and_true, Bool.true_and, Bool.and_false, Bool.false_and, Bool.or_true, Bool.or_false, Bool.true_or, Bool.false_or, Bool.not_true, Bool.not_false, List.length_cons, List.length_nil, List.map_cons, List.map_nil, List.cons_append, List.nil_append, List.getElem?_cons_zero, List.getElem?_cons_succ, List.set_cons_zero, List.set_cons_succ, Nat.reduceAdd, Int.reduceSub, Int.reduceNeg, Nat.reduceSub, Nat.reduceBEq, List.replicate_succ, List.replicate_zero, if_true, if_false, reduceIte, beq_self_eq_true, cln_self, q_le, q_lt, q_gt, q_ge, q_add, q_sub, q_neg, q_abs, q_int, q_bool, q_eqI, q_neI, q_ix0, q_ix1, q_ix2, q_lenT, q_isInt, q_isBool, q_isTuple, q_isStr, p_is, tyD, tInt, tBool, tTuple, tStr, ok_zs_get, ok_zs_remove, ok_zs_put, ok_zs_add, ok_zs_sum, ok_zs_not_records, ok_zs_not_an_operation, ok_zs_part, ok_zs_merge, ok_zs_not_a_nest, ok_zs_abort, ok_zs_records, ok_zs_operation, ok_zs_nest, ok_z14, ok_zs_stop, ok_zs_Part, gl_KEYS, gl_HIGHEST, gl_ROUND, gl_ITEMS, gl_DEEP, gl_ENDS]
    · refine ⟨.rem q, (c.nx k).nx 10, ⟨r1, by omega⟩, ?_⟩
      simp (decide := true) only [f28, roll_eq _ _ _ _ _ k1, roll_eq _ _ _ _ _ k2, hw, hq, a1, a2, a3, a4, Op.D, cm_cln, cm_cln1, eq_self, decide_true, decide_false, runFn, evSs, evS, evE, evL, evO, evB, evAndB, evOrB, evT, evAnd, evOr, evTs, sSeq, sRet, sPass, sAsg, sExpr, sIf, sRaise, sSetIx, sAug, xCall, xOfT, xAnd, xOr, xBol, xTru, xNot, xPr, xMe, xCons, xNil, xVar, xChain, xCB, xC, xIte, xTup, xLst, xDic, xSl, xAt, xNoP, okTup, okLst, getS, setS, startS, Rs.bind, Rs.then, Rt.and, boolR, truthR, truthD, okBl, asgT, asgTs, gl_ct, call_ct, fu_ct, end_next, end_exc, end_bl, end_int, end_str, end_non, end_tup, clean_bl, clean_int, clean_str, clean_non, clean_tup, nl_non, nl_bl, nl_int, nl_str, nl_tup, nl_loc, nlL_nil, nlL_cons, Bool.and_true, Bool.true_and, Bool.and_false, Bool.false_and, Bool.or_true, Bool.or_false, Bool.true_or, Bool.false_or, Bool.not_true, Bool.not_false, List.length_cons, List.length_nil, List.map_cons, List.map_nil, List.cons_append, List.nil_append, List.getElem?_cons_zero, List.getElem?_cons_succ, List.set_cons_zero, List.set_cons_succ, Nat.reduceAdd, Int.reduceSub, Int.reduceNeg, Nat.reduceSub, Nat.reduceBEq, List.replicate_succ, List.replicate_zero, if_true, if_false, reduceIte, beq_self_eq_true, cln_self, q_le, q_lt, q_gt, q_ge, q_add, q_sub, q_neg, q_abs, q_int, q_bool, q_eqI, q_neI, q_ix0, q_ix1, q_ix2, q_lenT, q_isInt, q_isBool, q_isTuple, q_isStr, p_is, tyD, tInt, tBool, tTuple, tStr, ok_zs_get, ok_zs_remove, ok_zs_put, ok_zs_add, ok_zs_sum, ok_zs_not_records, ok_zs_not_an_operation, ok_zs_part, ok_zs_merge, ok_zs_not_a_nest, ok_zs_abort, ok_zs_records, ok_zs_operation, ok_zs_nest, ok_z14, ok_zs_stop, ok_zs_Part, gl_KEYS, gl_HIGHEST, gl_ROUND, gl_ITEMS, gl_DEEP, gl_ENDS]
  by_cases a4 : w = 7
  · have k3 : 0 < 64 - q ∧ 64 - q < 1073741824 := by omega
    have s1 := ((c.nx k).nx 10).r_ge k3.1
    have s2 := ((c.nx k).nx 10).r_lt k3.1
    generalize hs : ((c.nx k).nx 10).r (64 - q) = s at s1 s2
    obtain ⟨v, p1, p2⟩ := (((c.nx k).nx 10).nx (64 - q)).pick_int (xs := [.int q, .int 63, .int (q + s)]) (p := fun v => q ≤ v ∧ v ≤ 63) (by simp) (by simp; omega)
    refine ⟨.sum q v, (((c.nx k).nx 10).nx (64 - q)).nx 3, ⟨r1, p2.1, p2.2, by omega, by omega⟩, ?_⟩
    simp (decide := true) only [f28, roll_eq _ _ _ _ _ k1, roll_eq _ _ _ _ _ k2, roll_eq _ _ _ _ _ k3, hw, hq, hs, a1, a2, a3, a4, cm_len, cm_push, some_eq, p1, Op.D, cm_cln, cm_cln1, eq_self, decide_true, decide_false, runFn, evSs, evS, evE, evL, evO, evB, evAndB, evOrB, evT, evAnd, evOr, evTs, sSeq, sRet, sPass, sAsg, sExpr, sIf, sRaise, sSetIx, sAug, xCall, xOfT, xAnd, xOr, xBol, xTru, xNot, xPr, xMe, xCons, xNil, xVar, xChain, xCB, xC, xIte, xTup, xLst, xDic, xSl, xAt, xNoP, okTup, okLst, getS, setS, startS, Rs.bind, Rs.then, Rt.and, boolR, truthR, truthD, okBl, asgT, asgTs, gl_ct, call_ct, fu_ct, end_next, end_exc, end_bl, end_int, end_str, end_non, end_tup, clean_bl, clean_int, clean_str, clean_non, clean_tup, nl_non, nl_bl, nl_int, nl_str, nl_tup, nl_loc, nlL_nil, nlL_cons, Bool.and_true, Bool.true_and, Bool.and_false, Bool.false_and, Bool.or_true, Bool.or_false, Bool.true_or, Bool.false_or, Bool.not_true, Bool.not_false, List.length_cons, List.length_nil, List.map_cons, List.map_nil, List.cons_append, List.nil_append, List.getElem?_cons_zero, List.getElem?_cons_succ, List.set_cons_zero, List.set_cons_succ, Nat.reduceAdd, Int.reduceSub, Int.reduceNeg, Nat.reduceSub, Nat.reduceBEq, List.replicate_succ, List.replicate_zero, if_true, if_false, reduceIte, beq_self_eq_true, cln_self, q_le, q_lt, q_gt, q_ge, q_add, q_sub, q_neg, q_abs, q_int, q_bool, q_eqI, q_neI, q_ix0, q_ix1, q_ix2, q_lenT, q_isInt, q_isBool, q_isTuple, q_isStr, p_is, tyD, tInt, tBool, tTuple, tStr, ok_zs_get, ok_zs_remove, ok_zs_put, ok_zs_add, ok_zs_sum, ok_zs_not_records, ok_zs_not_an_operation, ok_zs_part, ok_zs_merge, ok_zs_not_a_nest, ok_zs_abort, ok_zs_records, ok_zs_operation, ok_zs_nest, ok_z14, ok_zs_stop, ok_zs_Part, gl_KEYS, gl_HIGHEST, gl_ROUND, gl_ITEMS, gl_DEEP, gl_ENDS]
    rfl
  · refine ⟨.get q, (c.nx k).nx 10, ⟨r1, by omega⟩, ?_⟩
    simp (decide := true) only [f28, roll_eq _ _ _ _ _ k1, roll_eq _ _ _ _ _ k2, hw, hq, a1, a2, a3, a4, Op.D, cm_cln, cm_cln1, eq_self, decide_true, decide_false, runFn, evSs, evS, evE, evL, evO, evB, evAndB, evOrB, evT, evAnd, evOr, evTs, sSeq, sRet, sPass, sAsg, sExpr, sIf, sRaise, sSetIx, sAug, xCall, xOfT, xAnd, xOr, xBol, xTru, xNot, xPr, xMe, xCons, xNil, xVar, xChain, xCB, xC, xIte, xTup, xLst, xDic, xSl, xAt, xNoP, okTup, okLst, getS, setS, startS, Rs.bind, Rs.then, Rt.and, boolR, truthR, truthD, okBl, asgT, asgTs, gl_ct, call_ct, fu_ct, end_next, end_exc, end_bl, end_int, end_str, end_non, end_tup, clean_bl, clean_int, clean_str, clean_non, clean_tup, nl_non, nl_bl, nl_int, nl_str, nl_tup, nl_loc, nlL_nil, nlL_cons, Bool.and_true, Bool.true_and, Bool.and_false, Bool.false_and, Bool.or_true, Bool.or_false, Bool.true_or, Bool.false_or, Bool.not_true, Bool.not_false, List.length_cons, List.length_nil, List.map_cons, List.map_nil, List.cons_append, List.nil_append, List.getElem?_cons_zero, List.getElem?_cons_succ, List.set_cons_zero, List.set_cons_succ, Nat.reduceAdd, Int.reduceSub, Int.reduceNeg, Nat.reduceSub, Nat.reduceBEq, List.replicate_succ, List.replicate_zero, if_true, if_false, reduceIte, beq_self_eq_true, cln_self, q_le, q_lt, q_gt, q_ge, q_add, q_sub, q_neg, q_abs, q_int, q_bool, q_eqI, q_neI, q_ix0, q_ix1, q_ix2, q_lenT, q_isInt, q_isBool, q_isTuple, q_isStr, p_is, tyD, tInt, tBool, tTuple, tStr, ok_zs_get, ok_zs_remove, ok_zs_put, ok_zs_add, ok_zs_sum, ok_zs_not_records, ok_zs_not_an_operation, ok_zs_part, ok_zs_merge, ok_zs_not_a_nest, ok_zs_abort, ok_zs_records, ok_zs_operation, ok_zs_nest, ok_z14, ok_zs_stop, ok_zs_Part, gl_KEYS, gl_HIGHEST, gl_ROUND, gl_ITEMS, gl_DEEP, gl_ENDS]
theorem rec_turn (n : Nat) (c : Cup) (rs : List Ob) (e : List (Nat × Nat)) (many keys : Int) (hk : 0 < keys ∧ keys ≤ 64) (l : List (Int × Int)) (hl : l.length < 1000) (x : Option D) :
    ∃ (c' : Cup) (k v : Int), (0 ≤ k ∧ k ≤ 63) ∧ (-1000000000 ≤ v ∧ v ≤ 1000000000) ∧ evSs (ctOf tb (callL tb (n + 2)).1 (fun _ _ _ => .stuck) fun _ => .stuck) b29_0 [some (.loc 0), some (.int many), some (.int keys), some (.loc (rs.length + 1)), x] (cm c (rs ++ [.dic (dk l)]) e) =
      .next [some (.loc 0), some (.int many), some (.int keys), some (.loc (rs.length + 1)), x] (cm c' (rs ++ [.dic (dk (putI l k v))]) e) := by
  have k1 : 0 < keys ∧ keys < 1073741824 := by omega
  obtain ⟨v, p1, p2⟩ := c.pick_int (xs := [.int 0, .int 1, .int 5, .int (-9), .int 1000000000, .int (-1000000000), .int 33]) (p := fun v => -1000000000 ≤ v ∧ v ≤ 1000000000) (by decide) (by simp)
  have r1 := (c.nx ((7 : Nat) : Int)).r_ge k1.1
  have r2 := (c.nx ((7 : Nat) : Int)).r_lt k1.1
  refine ⟨(c.nx ((7 : Nat) : Int)).nx keys, (c.nx ((7 : Nat) : Int)).r keys, v, by omega, p2, ?_⟩
  have se := some_eq n c (rs ++ [.dic (dk l)]) e [.int 0, .int 1, .int 5, .int (-9), .int 1000000000, .int (-1000000000), .int 33] (by decide) (by decide)
  simp only [p1] at se
  have re := roll_eq (n + 1) (c.nx ((7 : Nat) : Int)) (rs ++ [.dic (dk l)]) e keys k1
  simp (decide := true) only [b29_0, cm_len, cm_push, pow9, se, re, cm_setD _ _ _ _ _ _ hl, sSetIx, memT, cm_cln1, eq_self, decide_true, decide_false, runFn, evSs, evS, evE, evL, evO, evB, evAndB, evOrB, evT, evAnd, evOr, evTs, sSeq, sRet, sPass, sAsg, sExpr, sIf, sRaise, sSetIx, sAug, xCall, xOfT, xAnd, xOr, xBol, xTru, xNot, xPr, xMe, xCons, xNil, xVar, xChain, xCB, xC, xIte, xTup, xLst, xDic, xSl, xAt, xNoP, okTup, okLst, getS, setS, startS, Rs.bind, Rs.then, Rt.and, boolR, truthR, truthD, okBl, asgT, asgTs, gl_ct, call_ct, fu_ct, end_next, end_exc, end_bl, end_int, end_str, end_non, end_tup, clean_bl, clean_int, clean_str, clean_non, clean_tup, nl_non, nl_bl, nl_int, nl_str, nl_tup, nl_loc, nlL_nil, nlL_cons, Bool.and_true, Bool.true_and, Bool.and_false, Bool.false_and, Bool.or_true, Bool.or_false, Bool.true_or, Bool.false_or, Bool.not_true, Bool.not_false, List.length_cons, List.length_nil, List.map_cons, List.map_nil, List.cons_append, List.nil_append, List.getElem?_cons_zero, List.getElem?_cons_succ, List.set_cons_zero, List.set_cons_succ, Nat.reduceAdd, Int.reduceSub, Int.reduceNeg, Nat.reduceSub, Nat.reduceBEq, List.replicate_succ, List.replicate_zero, if_true, if_false, reduceIte, beq_self_eq_true, cln_self, q_le, q_lt, q_gt, q_ge, q_add, q_sub, q_neg, q_abs, q_int, q_bool, q_eqI, q_neI, q_ix0, q_ix1, q_ix2, q_lenT, q_isInt, q_isBool, q_isTuple, q_isStr, p_is, tyD, tInt, tBool, tTuple, tStr, ok_zs_get, ok_zs_remove, ok_zs_put, ok_zs_add, ok_zs_sum, ok_zs_not_records, ok_zs_not_an_operation, ok_zs_part, ok_zs_merge, ok_zs_not_a_nest, ok_zs_abort, ok_zs_records, ok_zs_operation, ok_zs_nest, ok_z14, ok_zs_stop, ok_zs_Part, gl_KEYS, gl_HIGHEST, gl_ROUND, gl_ITEMS, gl_DEEP, gl_ENDS]
theorem rec_loop (n : Nat) (rs : List Ob) (e : List (Nat × Nat)) (many keys : Int) (hk : 0 < keys ∧ keys ≤ 64) : ∀ (j i : Nat) (c : Cup) (l : List (Int × Int)) (x : Option D), Good l → l.length + j < 1000 →
    ∃ (c' : Cup) (l' : List (Int × Int)) (x' : Option D), Good l' ∧ l'.length ≤ l.length + j ∧ forF (evSs (ctOf tb (callL tb (n + 2)).1 (fun _ _ _ => .stuck) fun _ => .stuck) b29_0) (.nm 4) (rngL 0 1 i j) [some (.loc 0), some (.int many), some (.int keys), some (.loc (rs.length + 1)), x] (cm c (rs ++ [.dic (dk l)]) e) =
      .next [some (.loc 0), some (.int many), some (.int keys), some (.loc (rs.length + 1)), x'] (cm c' (rs ++ [.dic (dk l')]) e)
  | 0, i, c, l, x, h, hz => ⟨c, l, x, h, Nat.le_refl _, rfl⟩
  | j + 1, i, c, l, x, h, hz => by
    obtain ⟨c1, k, v, b1, b2, e1⟩ := rec_turn n c rs e many keys hk l (by omega) (some (.int (0 + (i : Nat) * 1)))
    have hp := putI_len k v l
    obtain ⟨c2, l2, x2, g2, z2, e2⟩ := rec_loop n rs e many keys hk j (i + 1) c1 (putI l k v) (some (.int (0 + (i : Nat) * 1))) (h.put b1 b2) (by omega)
    refine ⟨c2, l2, x2, g2, by omega, ?_⟩
    unfold rngL forF
    simp only [asgT, setS, List.set_cons_succ, List.set_cons_zero, e1]
    exact e2
theorem law_recs (n : Nat) (c : Cup) (rs : List Ob) (e : List (Nat × Nat)) (many keys : Int) (hk : 0 < keys ∧ keys ≤ 64) (hm : 0 ≤ many ∧ many ≤ 64) : ∃ (c' : Cup) (l : List (Int × Int)), Good l ∧ l.length ≤ 64 ∧
    (callL tb (n + 3)).1 29 [.loc 0, .int many, .int keys] (cm c rs e) = .ok (.loc (rs.length + 1)) (cm c' (rs ++ [.dic (dk l)]) e) := by
  obtain ⟨c', l, x, g, z, e1⟩ := rec_loop n rs e many keys hk many.toNat 0 c [] none ⟨fun p h => (by cases h), List.nodup_nil⟩ (by simp; omega)
  refine ⟨c', l, g, by simp at z; omega, ?_⟩
  rw [call_s (fd := f29) rfl]
  have hr : inR many = true := decide_eq_true (by omega)
  have e0 : dk [] = [] := rfl
  rw [e0] at e1
  have cl : clean (cm c rs e) (.loc (rs.length + 1)) (cm c (rs ++ [.dic []]) e) = .ok (.loc (rs.length + 1)) (cm c (rs ++ [.dic []]) e) := end_cmD c c rs e []
  simp (decide := true) only [f29, cm_len, cm_push, hr, e1, cl, end_cmD, eq_self, decide_true, decide_false, runFn, evSs, evS, evE, evL, evO, evB, evAndB, evOrB, evT, evAnd, evOr, evTs, sSeq, sRet, sPass, sAsg, sExpr, sIf, sRaise, sSetIx, sAug, xCall, xOfT, xAnd, xOr, xBol, xTru, xNot, xPr, xMe, xCons, xNil, xVar, xChain, xCB, xC, xIte, xTup, xLst, xDic, xSl, xAt, xNoP, okTup, okLst, getS, setS, startS, Rs.bind, Rs.then, Rt.and, boolR, truthR, truthD, okBl, asgT, asgTs, gl_ct, call_ct, fu_ct, end_next, end_exc, end_bl, end_int, end_str, end_non, end_tup, clean_bl, clean_int, clean_str, clean_non, clean_tup, nl_non, nl_bl, nl_int, nl_str, nl_tup, nl_loc, nlL_nil, nlL_cons, Bool.and_true, Bool.true_and, Bool.and_false, Bool.false_and, Bool.or_true, Bool.or_false, Bool.true_or, Bool.false_or, Bool.not_true, Bool.not_false, List.length_cons, List.length_nil, List.map_cons, List.map_nil, List.cons_append, List.nil_append, List.getElem?_cons_zero, List.getElem?_cons_succ, List.set_cons_zero, List.set_cons_succ, Nat.reduceAdd, Int.reduceSub, Int.reduceNeg, Nat.reduceSub, Nat.reduceBEq, List.replicate_succ, List.replicate_zero, if_true, if_false, reduceIte, beq_self_eq_true, cln_self, q_le, q_lt, q_gt, q_ge, q_add, q_sub, q_neg, q_abs, q_int, q_bool, q_eqI, q_neI, q_ix0, q_ix1, q_ix2, q_lenT, q_isInt, q_isBool, q_isTuple, q_isStr, p_is, tyD, tInt, tBool, tTuple, tStr, ok_zs_get, ok_zs_remove, ok_zs_put, ok_zs_add, ok_zs_sum, ok_zs_not_records, ok_zs_not_an_operation, ok_zs_part, ok_zs_merge, ok_zs_not_a_nest, ok_zs_abort, ok_zs_records, ok_zs_operation, ok_zs_nest, ok_z14, ok_zs_stop, ok_zs_Part, gl_KEYS, gl_HIGHEST, gl_ROUND, gl_ITEMS, gl_DEEP, gl_ENDS, xLc, itOf, itSeq, itR1, lcRun, lcF, turnE, wipeS, Rs.noexc, clnE, clean_pl, end_pl, q_px0, q_px1, cln_push, cln_push2, cln_push3, sFor, forRun]
theorem told (n : Nat) (c : Cup) (rs : List Ob) (e : List (Nat × Nat)) (l : List (Int × Int)) (hz : l.length ≤ 64) : (callL tb (n + 1)).1 26 [.loc (rs.length + 1)] (cm c (rs ++ [.dic (dk l)]) e) = .ok (recD (isort ltP l)) (cm c (rs ++ [.dic (dk l)]) e) := by
  rw [call_s (fd := f26) rfl]
  have h1 := q_itemsD (cm_getL c rs (.dic (dk l)) e) (by omega)
  have h2 := q_sortP (push_get (cm c (rs ++ [.dic (dk l)]) e) (.lst (l.map pt))) (by omega)
  have h3 := q_tupL (push_get ((cm c (rs ++ [.dic (dk l)]) e).push (.lst (l.map pt))) (.lst ((isort ltP l).map pt)))
  simp (decide := true) only [f26, h1, h2, h3, end_tup _ _ _ (pt_nl _), cln_push2, eq_self, decide_true, decide_false, runFn, evSs, evS, evE, evL, evO, evB, evAndB, evOrB, evT, evAnd, evOr, evTs, sSeq, sRet, sPass, sAsg, sExpr, sIf, sRaise, sSetIx, sAug, xCall, xOfT, xAnd, xOr, xBol, xTru, xNot, xPr, xMe, xCons, xNil, xVar, xChain, xCB, xC, xIte, xTup, xLst, xDic, xSl, xAt, xNoP, okTup, okLst, getS, setS, startS, Rs.bind, Rs.then, Rt.and, boolR, truthR, truthD, okBl, asgT, asgTs, gl_ct, call_ct, fu_ct, end_next, end_exc, end_bl, end_int, end_str, end_non, end_tup, clean_bl, clean_int, clean_str, clean_non, clean_tup, nl_non, nl_bl, nl_int, nl_str, nl_tup, nl_loc, nlL_nil, nlL_cons, Bool.and_true, Bool.true_and, Bool.and_false, Bool.false_and, Bool.or_true, Bool.or_false, Bool.true_or, Bool.false_or, Bool.not_true, Bool.not_false, List.length_cons, List.length_nil, List.map_cons, List.map_nil, List.cons_append, List.nil_append, List.getElem?_cons_zero, List.getElem?_cons_succ, List.set_cons_zero, List.set_cons_succ, Nat.reduceAdd, Int.reduceSub, Int.reduceNeg, Nat.reduceSub, Nat.reduceBEq, List.replicate_succ, List.replicate_zero, if_true, if_false, reduceIte, beq_self_eq_true, cln_self, q_le, q_lt, q_gt, q_ge, q_add, q_sub, q_neg, q_abs, q_int, q_bool, q_eqI, q_neI, q_ix0, q_ix1, q_ix2, q_lenT, q_isInt, q_isBool, q_isTuple, q_isStr, p_is, tyD, tInt, tBool, tTuple, tStr, ok_zs_get, ok_zs_remove, ok_zs_put, ok_zs_add, ok_zs_sum, ok_zs_not_records, ok_zs_not_an_operation, ok_zs_part, ok_zs_merge, ok_zs_not_a_nest, ok_zs_abort, ok_zs_records, ok_zs_operation, ok_zs_nest, ok_z14, ok_zs_stop, ok_zs_Part, gl_KEYS, gl_HIGHEST, gl_ROUND, gl_ITEMS, gl_DEEP, gl_ENDS]
  rfl
theorem cup_eq (n : Nat) (ns : List Int) (h : ns.length ≤ 63) : ∃ c : Cup, (callL tb (n + 1)).1 22 [.rol ns] ⟨[], []⟩ = .ok (.loc 0) (cm c [] []) := by
  have key : ∃ x : Int, ∀ m, ∃ ys, newL m (ns.map D.int ++ [.int 0]) = .ok (.loc m.len) (m.push (.lst (.int x :: ys))) := by
    cases ns with
    | nil => exact ⟨0, fun m => ⟨[], newL_ok (by decide)⟩⟩
    | cons x r => exact ⟨x, fun m => ⟨r.map D.int ++ [.int 0], newL_ok (by simp at h ⊢; omega)⟩⟩
  obtain ⟨x, hx⟩ := key
  have n1 : ∀ m, newL m (ns.map D.int) = .ok (.loc m.len) (m.push (.lst (ns.map D.int))) := fun m => newL_ok (by rw [List.length_map]; omega)
  have hw : 0 ≤ (if x < 0 then -x else x) := by split <;> omega
  generalize hwe : (if x < 0 then -x else x) = w at hw
  have hb : 0 ≤ (w * 317 + 3301) % 2077503067 + 197 ∧ (w * 317 + 3301) % 2077503067 + 197 < 4294967296 := by
    have h1 := Int.emod_nonneg (w * 317 + 3301) (show (2077503067 : Int) ≠ 0 by decide)
    have h2 := Int.emod_lt_of_pos (w * 317 + 3301) (show (0 : Int) < 2077503067 by decide)
    omega
  have m1 : ∀ m, prim .mul [.int w, .int 317] m = .ok (.int (w * 317)) m := fun m => q_mul _ _ _ (.inr (by decide))
  have m2 : ∀ (y : Int) m, prim .mod [.int y, .int 2077503067] m = .ok (.int (y % 2077503067)) m := fun y m => q_mod _ _ _ (by decide)
  have m3 : ∀ (y : Int) m, prim .fdiv [.int y, .int 101] m = .ok (.int (y / 101)) m := fun y m => q_fdiv _ _ _ (by decide)
  obtain ⟨ys, hy⟩ := hx (((⟨[], []⟩ : Mem).push (.lst (ns.map D.int))).push (.lst [.int 0]))
  by_cases hc : 1000000000000000000 ≤ w
  · refine ⟨⟨w / 101, (w * 317 + 3301) % 2077503067 + 197, Int.ediv_nonneg hw (by decide), hb⟩, ?_⟩
    rw [call_s (fd := f22) rfl]
    simp (decide := true) only [f22, q_listR, n1, q_addP, hy, q_px0, hwe, pow18, hc, m1, m2, m3, cln_push3, end_pl, eq_self, decide_true, decide_false, runFn, evSs, evS, evE, evL, evO, evB, evAndB, evOrB, evT, evAnd, evOr, evTs, sSeq, sRet, sPass, sAsg, sExpr, sIf, sRaise, sSetIx, sAug, xCall, xOfT, xAnd, xOr, xBol, xTru, xNot, xPr, xMe, xCons, xNil, xVar, xChain, xCB, xC, xIte, xTup, xLst, xDic, xSl, xAt, xNoP, okTup, okLst, getS, setS, startS, Rs.bind, Rs.then, Rt.and, boolR, truthR, truthD, okBl, asgT, asgTs, gl_ct, call_ct, fu_ct, end_next, end_exc, end_bl, end_int, end_str, end_non, end_tup, clean_bl, clean_int, clean_str, clean_non, clean_tup, nl_non, nl_bl, nl_int, nl_str, nl_tup, nl_loc, nlL_nil, nlL_cons, Bool.and_true, Bool.true_and, Bool.and_false, Bool.false_and, Bool.or_true, Bool.or_false, Bool.true_or, Bool.false_or, Bool.not_true, Bool.not_false, List.length_cons, List.length_nil, List.map_cons, List.map_nil, List.cons_append, List.nil_append, List.getElem?_cons_zero, List.getElem?_cons_succ, List.set_cons_zero, List.set_cons_succ, Nat.reduceAdd, Int.reduceSub, Int.reduceNeg, Nat.reduceSub, Nat.reduceBEq, List.replicate_succ, List.replicate_zero, if_true, if_false, reduceIte, beq_self_eq_true, cln_self, q_le, q_lt, q_gt, q_ge, q_add, q_sub, q_neg, q_abs, q_int, q_bool, q_eqI, q_neI, q_ix0, q_ix1, q_ix2, q_lenT, q_isInt, q_isBool, q_isTuple, q_isStr, p_is, tyD, tInt, tBool, tTuple, tStr, ok_zs_get, ok_zs_remove, ok_zs_put, ok_zs_add, ok_zs_sum, ok_zs_not_records, ok_zs_not_an_operation, ok_zs_part, ok_zs_merge, ok_zs_not_a_nest, ok_zs_abort, ok_zs_records, ok_zs_operation, ok_zs_nest, ok_z14, ok_zs_stop, ok_zs_Part, gl_KEYS, gl_HIGHEST, gl_ROUND, gl_ITEMS, gl_DEEP, gl_ENDS]
    rfl
  · refine ⟨⟨0, (w * 317 + 3301) % 2077503067 + 197, by decide, hb⟩, ?_⟩
    rw [call_s (fd := f22) rfl]
    simp (decide := true) only [f22, q_listR, n1, q_addP, hy, q_px0, hwe, pow18, hc, m1, m2, m3, cln_push3, end_pl, eq_self, decide_true, decide_false, runFn, evSs, evS, evE, evL, evO, evB, evAndB, evOrB, evT, evAnd, evOr, evTs, sSeq, sRet, sPass, sAsg, sExpr, sIf, sRaise, sSetIx, sAug, xCall, xOfT, xAnd, xOr, xBol, xTru, xNot, xPr, xMe, xCons, xNil, xVar, xChain, xCB, xC, xIte, xTup, xLst, xDic, xSl, xAt, xNoP, okTup, okLst, getS, setS, startS, Rs.bind, Rs.then, Rt.and, boolR, truthR, truthD, okBl, asgT, asgTs, gl_ct, call_ct, fu_ct, end_next, end_exc, end_bl, end_int, end_str, end_non, end_tup, clean_bl, clean_int, clean_str, clean_non, clean_tup, nl_non, nl_bl, nl_int, nl_str, nl_tup, nl_loc, nlL_nil, nlL_cons, Bool.and_true, Bool.true_and, Bool.and_false, Bool.false_and, Bool.or_true, Bool.or_false, Bool.true_or, Bool.false_or, Bool.not_true, Bool.not_false, List.length_cons, List.length_nil, List.map_cons, List.map_nil, List.cons_append, List.nil_append, List.getElem?_cons_zero, List.getElem?_cons_succ, List.set_cons_zero, List.set_cons_succ, Nat.reduceAdd, Int.reduceSub, Int.reduceNeg, Nat.reduceSub, Nat.reduceBEq, List.replicate_succ, List.replicate_zero, if_true, if_false, reduceIte, beq_self_eq_true, cln_self, q_le, q_lt, q_gt, q_ge, q_add, q_sub, q_neg, q_abs, q_int, q_bool, q_eqI, q_neI, q_ix0, q_ix1, q_ix2, q_lenT, q_isInt, q_isBool, q_isTuple, q_isStr, p_is, tyD, tInt, tBool, tTuple, tStr, ok_zs_get, ok_zs_remove, ok_zs_put, ok_zs_add, ok_zs_sum, ok_zs_not_records, ok_zs_not_an_operation, ok_zs_part, ok_zs_merge, ok_zs_not_a_nest, ok_zs_abort, ok_zs_records, ok_zs_operation, ok_zs_nest, ok_z14, ok_zs_stop, ok_zs_Part, gl_KEYS, gl_HIGHEST, gl_ROUND, gl_ITEMS, gl_DEEP, gl_ENDS]
    rfl
end T02

set_option Elab.async false
set_option linter.all false
set_option maxRecDepth 100000
set_option maxHeartbeats 1000000
namespace T02
open NV PySem
/-! _law_done -/
def keepS (l0 : List (Int × Int)) (a b : Int) (d : D) : Option D := match d with
  | .int j => if decide (a ≤ j) && decide (j ≤ b) then some (lkD l0 j) else none
  | _ => none
theorem keepS_int (l0 : List (Int × Int)) (a b j : Int) : keepS l0 a b (.int j) = if decide (a ≤ j) && decide (j ≤ b) then some (lkD l0 j) else none := rfl
theorem sum_keys (a b : Int) : ∀ {l : List (Int × Int)}, (l.map (·.1)).Nodup → ∀ l0 : List (Int × Int), (l0.map (·.1)).Nodup → (∀ p ∈ l, p ∈ l0) → (l.map fun p => D.int p.1).filterMap (keepS l0 a b) = ((l.filter (inRg a b)).map (·.2)).map D.int
  | [], _, _, _, _ => rfl
  | p :: l, h, l0, h0, hs => by
    rw [List.map_cons, List.nodup_cons] at h
    have ih := sum_keys a b h.2 l0 h0 fun q hq => hs q (List.mem_cons_of_mem _ hq)
    have hv : lkD l0 p.1 = .int p.2 := by
      unfold lkD
      rw [lk_nodup h0 p (hs p (List.mem_cons_self ..))]
    rw [List.map_cons, List.filterMap_cons, keepS_int, List.filter_cons, hv, ih]
    unfold inRg
    by_cases hc : (decide (a ≤ p.1) && decide (p.1 ≤ b)) = true
    · rw [if_pos hc, if_pos hc]
      rfl
    · rw [if_neg hc, if_neg hc]
def keepNe (k : Int) (d : D) : Option D := match pairOf d with
  | some p => if !decide (p.1 = k) then some d else none
  | none => none
theorem keep_pairs (k : Int) : ∀ l : List (Int × Int), (l.map pt).filterMap (keepNe k) = (l.filter fun p => !decide (p.1 = k)).map pt
  | [] => rfl
  | p :: l => by
    rw [List.map_cons, List.filterMap_cons, List.filter_cons]
    have e : keepNe k (pt p) = if !decide (p.1 = k) then some (pt p) else none := rfl
    rw [e, keep_pairs k l]
    cases decide (p.1 = k) <;> simp
theorem law_done_eq (n : Nat) (m : Mem) (k : Nat) (l : List (Int × Int)) (o : Op) (hk : m.get k = some (.dic (dk l))) (nd : (l.map (·.1)).Nodup) (hz : l.length ≤ 100) :
    ∃ (os : List Ob) (i : Nat), (callL tb (n + 1)).1 25 [.loc k, o.D] m = .ok (.tup [.loc (m.len + i), (dstp l o).2]) (mx m os []) ∧ os[i]? = some (.dic (dk (dstp l o).1)) := by
  have i1 : prim .lstItems [.loc k] m = .ok (.loc m.len) (mx m [.lst (l.map pt)] []) := by
    rw [q_itemsD hk (by omega), push_mx]
  have i2 : prim .dict [.loc m.len] (mx m [.lst (l.map pt)] []) = .ok (.loc (m.len + 1)) (mx m [.lst (l.map pt), .dic (dk l)] []) := by
    rw [q_dictP (mx_get0 _ _ _) nd, mx_push, mx_len]
    rfl
  have hg : ∀ os u, (mx m (.lst (l.map pt) :: .dic (dk l) :: os) u).get (m.len + 1) = some (.dic (dk l)) := fun os u => mx_get m _ u 1
  have g2 : ∀ j os u, prim .get2 [.loc (m.len + 1), .int j, .non] (mx m (.lst (l.map pt) :: .dic (dk l) :: os) u) = .ok (lkD l j) (mx m (.lst (l.map pt) :: .dic (dk l) :: os) u) := fun j os u => q_get2D j (hg os u)
  have kd : ∀ os u, kindOk .get2 (.loc (m.len + 1)) (mx m (.lst (l.map pt) :: .dic (dk l) :: os) u) = true := fun os u => isDic_of (hg os u)
  have c1 : ∀ (d : D), d.nl = true → clean (mx m [.lst (l.map pt), .dic (dk l)] []) d (mx m [.lst (l.map pt), .dic (dk l)] []) = .ok d (mx m [.lst (l.map pt), .dic (dk l)] []) := fun d hd => by
    rw [clean_nl hd, cln_mx]
    rfl
  have ct : ∀ (x y : D) (j : Nat) m1 m2, clean m1 (.tup [x, y, .loc j]) m2 = .ok (.tup [x, y, .loc j]) m2 := fun x y j m1 m2 => by
    unfold clean
    have : D.nl (.tup [x, y, .loc j]) = false := by simp [D.nl, D.nlL]
    rw [this]
  have et : ∀ (x : D) (j : Nat) m2, endR m (.ret (.tup [.loc j, x]) m2) = .ok (.tup [.loc j, x]) m2 := fun x j m2 => by
    show clean m (.tup [.loc j, x]) m2 = _
    unfold clean
    have : D.nl (.tup [.loc j, x]) = false := by simp [D.nl, D.nlL]
    rw [this]
  have set1 : ∀ (j v : Int), setIxD (mx m [.lst (l.map pt), .dic (dk l)] []) (.loc (m.len + 1)) (.int j) (.int v) = some (mx m [.lst (l.map pt), .dic (dk (putI l j v))] []) := fun j v => by
    unfold setIxD
    simp only [hg]
    have hz2 : decide ((dk l).length < PySem.sizeLine) = true := decide_eq_true (by rw [dk_len]; exact Nat.lt_of_le_of_lt hz (by decide))
    simp only [keyD, hz2, Bool.and_true, if_true, dPut_dk, nl_int, put_mx, List.set_cons_succ, List.set_cons_zero]
  rw [call_s (fd := f25) rfl]
  cases o with
  | sum a b =>
    refine ⟨[.lst (l.map pt), .dic (dk l), .lst (l.map fun p => .int p.1), .lst (((l.filter (inRg a b)).map (·.2)).map D.int)], 1, ?_, rfl⟩
    have i3 : prim .list [.loc (m.len + 1)] (mx m [.lst (l.map pt), .dic (dk l)] []) = .ok (.loc (m.len + 2)) (mx m [.lst (l.map pt), .dic (dk l), .lst (l.map fun p => .int p.1)] []) := by
      rw [q_listD (hg _ _), dk_keys, newL_mx _ _ _ (by rw [List.length_map]; omega)]
      rfl
    have cc : evE (Cn n) c25_2 [some (.loc k), some (.tup [.str zs_sum, .int a, .int b]), some (.str zs_sum), some (.int a), some (.loc (m.len + 1)), none, none, none, none] (mx m [.lst (l.map pt), .dic (dk l)] []) =
        newL (mx m [.lst (l.map pt), .dic (dk l), .lst (l.map fun p => .int p.1)] []) (((l.filter (inRg a b)).map (·.2)).map D.int) := by
      rw [← sum_keys a b nd l nd (fun p hp => hp)]
      refine lc_gen (d := .loc (m.len + 2)) ?_ (seqOf_of (mx_get m _ _ 2)) (fun x hx => ?_) ?_
      · simp only [eq_self, decide_true, decide_false, runFn, evSs, evS, evE, evL, evO, evB, evAndB, evOrB, evT, evAnd, evOr, evTs, sSeq, sRet, sPass, sAsg, sExpr, sIf, sRaise, sSetIx, sAug, xCall, xOfT, xAnd, xOr, xBol, xTru, xNot, xPr, xMe, xCons, xNil, xVar, xChain, xCB, xC, xIte, xTup, xLst, xDic, xSl, xAt, xNoP, okTup, okLst, getS, setS, startS, Rs.bind, Rs.then, Rt.and, boolR, truthR, truthD, okBl, asgT, asgTs, gl_ct, call_ct, fu_ct, end_next, end_exc, end_bl, end_int, end_str, end_non, end_tup, clean_bl, clean_int, clean_str, clean_non, clean_tup, nl_non, nl_bl, nl_int, nl_str, nl_tup, nl_loc, nlL_nil, nlL_cons, Bool.and_true, Bool.true_and, Bool.and_false, Bool.false_and, Bool.or_true, Bool.or_false, Bool.true_or, Bool.false_or, Bool.not_true, Bool.not_false, List.length_cons, List.length_nil, List.map_cons, List.map_nil, List.cons_append, List.nil_append, List.getElem?_cons_zero, List.getElem?_cons_succ, List.set_cons_zero, List.set_cons_succ, Nat.reduceAdd, Int.reduceSub, Int.reduceNeg, Nat.reduceSub, Nat.reduceBEq, List.replicate_succ, List.replicate_zero, if_true, if_false, reduceIte, beq_self_eq_true, cln_self, q_le, q_lt, q_gt, q_ge, q_add, q_sub, q_neg, q_abs, q_int, q_bool, q_eqI, q_neI, q_ix0, q_ix1, q_ix2, q_lenT, q_isInt, q_isBool, q_isTuple, q_isStr, p_is, tyD, tInt, tBool, tTuple, tStr, ok_zs_get, ok_zs_remove, ok_zs_put, ok_zs_add, ok_zs_sum, ok_zs_not_records, ok_zs_not_an_operation, ok_zs_part, ok_zs_merge, ok_zs_not_a_nest, ok_zs_abort, ok_zs_records, ok_zs_operation, ok_zs_nest, ok_z14, ok_zs_stop, ok_zs_Part, gl_KEYS, gl_HIGHEST, gl_ROUND, gl_ITEMS, gl_DEEP, gl_ENDS]
        exact i3
      · obtain ⟨p, hp, rfl⟩ := List.mem_map.mp hx
        have q : prim .idx [.loc (m.len + 1), .int p.1] (mx m [.lst (l.map pt), .dic (dk l), .lst (l.map fun p => .int p.1)] []) = .ok (.int p.2) (mx m [.lst (l.map pt), .dic (dk l), .lst (l.map fun p => .int p.1)] []) := q_idxD (hg _ _) (lk_nodup nd p hp)
        have hv : lkD l p.1 = .int p.2 := by
          unfold lkD
          rw [lk_nodup nd p hp]
        by_cases h1 : a ≤ p.1 <;> by_cases h2 : p.1 ≤ b <;> simp (decide := true) only [t25_0, x25_1, keepS_int, h1, h2, q, hv, eq_self, decide_true, decide_false, runFn, evSs, evS, evE, evL, evO, evB, evAndB, evOrB, evT, evAnd, evOr, evTs, sSeq, sRet, sPass, sAsg, sExpr, sIf, sRaise, sSetIx, sAug, xCall, xOfT, xAnd, xOr, xBol, xTru, xNot, xPr, xMe, xCons, xNil, xVar, xChain, xCB, xC, xIte, xTup, xLst, xDic, xSl, xAt, xNoP, okTup, okLst, getS, setS, startS, Rs.bind, Rs.then, Rt.and, boolR, truthR, truthD, okBl, asgT, asgTs, gl_ct, call_ct, fu_ct, end_next, end_exc, end_bl, end_int, end_str, end_non, end_tup, clean_bl, clean_int, clean_str, clean_non, clean_tup, nl_non, nl_bl, nl_int, nl_str, nl_tup, nl_loc, nlL_nil, nlL_cons, Bool.and_true, Bool.true_and, Bool.and_false, Bool.false_and, Bool.or_true, Bool.or_false, Bool.true_or, Bool.false_or, Bool.not_true, Bool.not_false, List.length_cons, List.length_nil, List.map_cons, List.map_nil, List.cons_append, List.nil_append, List.getElem?_cons_zero, List.getElem?_cons_succ, List.set_cons_zero, List.set_cons_succ, Nat.reduceAdd, Int.reduceSub, Int.reduceNeg, Nat.reduceSub, Nat.reduceBEq, List.replicate_succ, List.replicate_zero, if_true, if_false, reduceIte, beq_self_eq_true, cln_self, q_le, q_lt, q_gt, q_ge, q_add, q_sub, q_neg, q_abs, q_int, q_bool, q_eqI, q_neI, q_ix0, q_ix1, q_ix2, q_lenT, q_isInt, q_isBool, q_isTuple, q_isStr, p_is, tyD, tInt, tBool, tTuple, tStr, ok_zs_get, ok_zs_remove, ok_zs_put, ok_zs_add, ok_zs_sum, ok_zs_not_records, ok_zs_not_an_operation, ok_zs_part, ok_zs_merge, ok_zs_not_a_nest, ok_zs_abort, ok_zs_records, ok_zs_operation, ok_zs_nest, ok_z14, ok_zs_stop, ok_zs_Part, gl_KEYS, gl_HIGHEST, gl_ROUND, gl_ITEMS, gl_DEEP, gl_ENDS, xLc, itOf, itSeq, itR1, lcRun, lcF, turnE, wipeS, Rs.noexc, clnE, clean_pl, end_pl, q_px0, q_px1, cln_push, cln_push2, cln_push3, sFor, forRun]
      · show _ < 100000
        rw [List.length_map]
        omega
    have s1 : prim .sum [.loc (m.len + 3)] (mx m [.lst (l.map pt), .dic (dk l), .lst (l.map fun p => .int p.1), .lst (((l.filter (inRg a b)).map (·.2)).map D.int)] []) =
        .ok (.int (sumR l a b)) (mx m [.lst (l.map pt), .dic (dk l), .lst (l.map fun p => .int p.1), .lst (((l.filter (inRg a b)).map (·.2)).map D.int)] []) := by
      rw [q_sumL (mx_get m _ _ 3)]
      rfl
    have n1 : newL (mx m [.lst (l.map pt), .dic (dk l), .lst (l.map fun p => .int p.1)] []) (((l.filter (inRg a b)).map (·.2)).map D.int) = .ok (.loc (m.len + 3)) (mx m [.lst (l.map pt), .dic (dk l), .lst (l.map fun p => .int p.1), .lst (((l.filter (inRg a b)).map (·.2)).map D.int)] []) := by
      rw [newL_ok (by rw [List.length_map, List.length_map]; exact Nat.le_trans (List.length_filter_le _ _) (by omega)), mx_push, mx_len]
      rfl
    simp (decide := true) only [f25, Op.D, dstp, i1, i2, ct, cc, n1, s1, et, q_eqS, cln_mx, List.take_succ_cons, List.take_zero, eq_self, decide_true, decide_false, runFn, evSs, evS, evE, evL, evO, evB, evAndB, evOrB, evT, evAnd, evOr, evTs, sSeq, sRet, sPass, sAsg, sExpr, sIf, sRaise, sSetIx, sAug, xCall, xOfT, xAnd, xOr, xBol, xTru, xNot, xPr, xMe, xCons, xNil, xVar, xChain, xCB, xC, xIte, xTup, xLst, xDic, xSl, xAt, xNoP, okTup, okLst, getS, setS, startS, Rs.bind, Rs.then, Rt.and, boolR, truthR, truthD, okBl, asgT, asgTs, gl_ct, call_ct, fu_ct, end_next, end_exc, end_bl, end_int, end_str, end_non, end_tup, clean_bl, clean_int, clean_str, clean_non, clean_tup, nl_non, nl_bl, nl_int, nl_str, nl_tup, nl_loc, nlL_nil, nlL_cons, Bool.and_true, Bool.true_and, Bool.and_false, Bool.false_and, Bool.or_true, Bool.or_false, Bool.true_or, Bool.false_or, Bool.not_true, Bool.not_false, List.length_cons, List.length_nil, List.map_cons, List.map_nil, List.cons_append, List.nil_append, List.getElem?_cons_zero, List.getElem?_cons_succ, List.set_cons_zero, List.set_cons_succ, Nat.reduceAdd, Int.reduceSub, Int.reduceNeg, Nat.reduceSub, Nat.reduceBEq, List.replicate_succ, List.replicate_zero, if_true, if_false, reduceIte, beq_self_eq_true, cln_self, q_le, q_lt, q_gt, q_ge, q_add, q_sub, q_neg, q_abs, q_int, q_bool, q_eqI, q_neI, q_ix0, q_ix1, q_ix2, q_lenT, q_isInt, q_isBool, q_isTuple, q_isStr, p_is, tyD, tInt, tBool, tTuple, tStr, ok_zs_get, ok_zs_remove, ok_zs_put, ok_zs_add, ok_zs_sum, ok_zs_not_records, ok_zs_not_an_operation, ok_zs_part, ok_zs_merge, ok_zs_not_a_nest, ok_zs_abort, ok_zs_records, ok_zs_operation, ok_zs_nest, ok_z14, ok_zs_stop, ok_zs_Part, gl_KEYS, gl_HIGHEST, gl_ROUND, gl_ITEMS, gl_DEEP, gl_ENDS]
  | get j =>
    refine ⟨[.lst (l.map pt), .dic (dk l)], 1, ?_, rfl⟩
    simp (decide := true) only [f25, Op.D, dstp, i1, i2, ct, g2, kd, c1 _ (nl_lkD l j), et, q_eqS, q_neS, cln_mx, List.take_succ_cons, List.take_zero, eq_self, decide_true, decide_false, runFn, evSs, evS, evE, evL, evO, evB, evAndB, evOrB, evT, evAnd, evOr, evTs, sSeq, sRet, sPass, sAsg, sExpr, sIf, sRaise, sSetIx, sAug, xCall, xOfT, xAnd, xOr, xBol, xTru, xNot, xPr, xMe, xCons, xNil, xVar, xChain, xCB, xC, xIte, xTup, xLst, xDic, xSl, xAt, xNoP, okTup, okLst, getS, setS, startS, Rs.bind, Rs.then, Rt.and, boolR, truthR, truthD, okBl, asgT, asgTs, gl_ct, call_ct, fu_ct, end_next, end_exc, end_bl, end_int, end_str, end_non, end_tup, clean_bl, clean_int, clean_str, clean_non, clean_tup, nl_non, nl_bl, nl_int, nl_str, nl_tup, nl_loc, nlL_nil, nlL_cons, Bool.and_true, Bool.true_and, Bool.and_false, Bool.false_and, Bool.or_true, Bool.or_false, Bool.true_or, Bool.false_or, Bool.not_true, Bool.not_false, List.length_cons, List.length_nil, List.map_cons, List.map_nil, List.cons_append, List.nil_append, List.getElem?_cons_zero, List.getElem?_cons_succ, List.set_cons_zero, List.set_cons_succ, Nat.reduceAdd, Int.reduceSub, Int.reduceNeg, Nat.reduceSub, Nat.reduceBEq, List.replicate_succ, List.replicate_zero, if_true, if_false, reduceIte, beq_self_eq_true, cln_self, q_le, q_lt, q_gt, q_ge, q_add, q_sub, q_neg, q_abs, q_int, q_bool, q_eqI, q_neI, q_ix0, q_ix1, q_ix2, q_lenT, q_isInt, q_isBool, q_isTuple, q_isStr, p_is, tyD, tInt, tBool, tTuple, tStr, ok_zs_get, ok_zs_remove, ok_zs_put, ok_zs_add, ok_zs_sum, ok_zs_not_records, ok_zs_not_an_operation, ok_zs_part, ok_zs_merge, ok_zs_not_a_nest, ok_zs_abort, ok_zs_records, ok_zs_operation, ok_zs_nest, ok_z14, ok_zs_stop, ok_zs_Part, gl_KEYS, gl_HIGHEST, gl_ROUND, gl_ITEMS, gl_DEEP, gl_ENDS]
  | put j v =>
    refine ⟨[.lst (l.map pt), .dic (dk (putI l j v))], 1, ?_, rfl⟩
    simp (decide := true) only [f25, Op.D, dstp, i1, i2, ct, g2, kd, c1 _ (nl_lkD l j), set1, sSetIx, memT, et, q_eqS, q_neS, cln_mx, List.take_succ_cons, List.take_zero, eq_self, decide_true, decide_false, runFn, evSs, evS, evE, evL, evO, evB, evAndB, evOrB, evT, evAnd, evOr, evTs, sSeq, sRet, sPass, sAsg, sExpr, sIf, sRaise, sSetIx, sAug, xCall, xOfT, xAnd, xOr, xBol, xTru, xNot, xPr, xMe, xCons, xNil, xVar, xChain, xCB, xC, xIte, xTup, xLst, xDic, xSl, xAt, xNoP, okTup, okLst, getS, setS, startS, Rs.bind, Rs.then, Rt.and, boolR, truthR, truthD, okBl, asgT, asgTs, gl_ct, call_ct, fu_ct, end_next, end_exc, end_bl, end_int, end_str, end_non, end_tup, clean_bl, clean_int, clean_str, clean_non, clean_tup, nl_non, nl_bl, nl_int, nl_str, nl_tup, nl_loc, nlL_nil, nlL_cons, Bool.and_true, Bool.true_and, Bool.and_false, Bool.false_and, Bool.or_true, Bool.or_false, Bool.true_or, Bool.false_or, Bool.not_true, Bool.not_false, List.length_cons, List.length_nil, List.map_cons, List.map_nil, List.cons_append, List.nil_append, List.getElem?_cons_zero, List.getElem?_cons_succ, List.set_cons_zero, List.set_cons_succ, Nat.reduceAdd, Int.reduceSub, Int.reduceNeg, Nat.reduceSub, Nat.reduceBEq, List.replicate_succ, List.replicate_zero, if_true, if_false, reduceIte, beq_self_eq_true, cln_self, q_le, q_lt, q_gt, q_ge, q_add, q_sub, q_neg, q_abs, q_int, q_bool, q_eqI, q_neI, q_ix0, q_ix1, q_ix2, q_lenT, q_isInt, q_isBool, q_isTuple, q_isStr, p_is, tyD, tInt, tBool, tTuple, tStr, ok_zs_get, ok_zs_remove, ok_zs_put, ok_zs_add, ok_zs_sum, ok_zs_not_records, ok_zs_not_an_operation, ok_zs_part, ok_zs_merge, ok_zs_not_a_nest, ok_zs_abort, ok_zs_records, ok_zs_operation, ok_zs_nest, ok_z14, ok_zs_stop, ok_zs_Part, gl_KEYS, gl_HIGHEST, gl_ROUND, gl_ITEMS, gl_DEEP, gl_ENDS]
  | rem j =>
    have i4 : prim .lstItems [.loc (m.len + 1)] (mx m [.lst (l.map pt), .dic (dk l)] []) = .ok (.loc (m.len + 2)) (mx m [.lst (l.map pt), .dic (dk l), .lst (l.map pt)] []) := by
      rw [q_itemsD (hg _ _) (by omega), mx_push, mx_len]
      rfl
    generalize hF : (l.filter fun p => !decide (p.1 = j)) = F
    have hFn : (F.map (·.1)).Nodup := by rw [← hF]; exact rem_nd nd _
    have hFl : F.length ≤ 100 := by rw [← hF]; exact Nat.le_trans (List.length_filter_le _ _) hz
    have cc : ∀ d, evE (Cn n) c25_5 [some (.loc k), some (.tup [.str zs_remove, .int j]), some (.str zs_remove), some (.int j), some (.loc (m.len + 1)), none, some d, none, none] (mx m [.lst (l.map pt), .dic (dk l)] []) =
        .ok (.loc (m.len + 3)) (mx m [.lst (l.map pt), .dic (dk l), .lst (l.map pt), .lst (F.map pt)] []) := fun d => by
      have e := lc_gen (C := Cn n) (own := [5, 7]) (tg := .tp [.nm 5, .nm 7]) (e0 := .pr .lstItems [.var 4]) (ts := t25_3) (e := x25_4) (s := [some (.loc k), some (.tup [.str zs_remove, .int j]), some (.str zs_remove), some (.int j), some (.loc (m.len + 1)), none, some d, none, none])
        (m := mx m [.lst (l.map pt), .dic (dk l)] []) (m1 := mx m [.lst (l.map pt), .dic (dk l), .lst (l.map pt)] []) (d := .loc (m.len + 2)) (xs := l.map pt) (h := keepNe j) (by simp only [eq_self, decide_true, decide_false, runFn, evSs, evS, evE, evL, evO, evB, evAndB, evOrB, evT, evAnd, evOr, evTs, sSeq, sRet, sPass, sAsg, sExpr, sIf, sRaise, sSetIx, sAug, xCall, xOfT, xAnd, xOr, xBol, xTru, xNot, xPr, xMe, xCons, xNil, xVar, xChain, xCB, xC, xIte, xTup, xLst, xDic, xSl, xAt, xNoP, okTup, okLst, getS, setS, startS, Rs.bind, Rs.then, Rt.and, boolR, truthR, truthD, okBl, asgT, asgTs, gl_ct, call_ct, fu_ct, end_next, end_exc, end_bl, end_int, end_str, end_non, end_tup, clean_bl, clean_int, clean_str, clean_non, clean_tup, nl_non, nl_bl, nl_int, nl_str, nl_tup, nl_loc, nlL_nil, nlL_cons, Bool.and_true, Bool.true_and, Bool.and_false, Bool.false_and, Bool.or_true, Bool.or_false, Bool.true_or, Bool.false_or, Bool.not_true, Bool.not_false, List.length_cons, List.length_nil, List.map_cons, List.map_nil, List.cons_append, List.nil_append, List.getElem?_cons_zero, List.getElem?_cons_succ, List.set_cons_zero, List.set_cons_succ, Nat.reduceAdd, Int.reduceSub, Int.reduceNeg, Nat.reduceSub, Nat.reduceBEq, List.replicate_succ, List.replicate_zero, if_true, if_false, reduceIte, beq_self_eq_true, cln_self, q_le, q_lt, q_gt, q_ge, q_add, q_sub, q_neg, q_abs, q_int, q_bool, q_eqI, q_neI, q_ix0, q_ix1, q_ix2, q_lenT, q_isInt, q_isBool, q_isTuple, q_isStr, p_is, tyD, tInt, tBool, tTuple, tStr, ok_zs_get, ok_zs_remove, ok_zs_put, ok_zs_add, ok_zs_sum, ok_zs_not_records, ok_zs_not_an_operation, ok_zs_part, ok_zs_merge, ok_zs_not_a_nest, ok_zs_abort, ok_zs_records, ok_zs_operation, ok_zs_nest, ok_z14, ok_zs_stop, ok_zs_Part, gl_KEYS, gl_HIGHEST, gl_ROUND, gl_ITEMS, gl_DEEP, gl_ENDS]; exact i4) (seqOf_of (mx_get m _ _ 2)) (fun x hx => by
          obtain ⟨p, hp, rfl⟩ := List.mem_map.mp hx
          have ek : keepNe j (pt p) = if !decide (p.1 = j) then some (pt p) else none := rfl
          rw [ek]
          by_cases h1 : p.1 = j <;> simp (decide := true) only [pt, t25_3, x25_4, h1, q_neI, eq_self, decide_true, decide_false, runFn, evSs, evS, evE, evL, evO, evB, evAndB, evOrB, evT, evAnd, evOr, evTs, sSeq, sRet, sPass, sAsg, sExpr, sIf, sRaise, sSetIx, sAug, xCall, xOfT, xAnd, xOr, xBol, xTru, xNot, xPr, xMe, xCons, xNil, xVar, xChain, xCB, xC, xIte, xTup, xLst, xDic, xSl, xAt, xNoP, okTup, okLst, getS, setS, startS, Rs.bind, Rs.then, Rt.and, boolR, truthR, truthD, okBl, asgT, asgTs, gl_ct, call_ct, fu_ct, end_next, end_exc, end_bl, end_int, end_str, end_non, end_tup, clean_bl, clean_int, clean_str, clean_non, clean_tup, nl_non, nl_bl, nl_int, nl_str, nl_tup, nl_loc, nlL_nil, nlL_cons, Bool.and_true, Bool.true_and, Bool.and_false, Bool.false_and, Bool.or_true, Bool.or_false, Bool.true_or, Bool.false_or, Bool.not_true, Bool.not_false, List.length_cons, List.length_nil, List.map_cons, List.map_nil, List.cons_append, List.nil_append, List.getElem?_cons_zero, List.getElem?_cons_succ, List.set_cons_zero, List.set_cons_succ, Nat.reduceAdd, Int.reduceSub, Int.reduceNeg, Nat.reduceSub, Nat.reduceBEq, List.replicate_succ, List.replicate_zero, if_true, if_false, reduceIte, beq_self_eq_true, cln_self, q_le, q_lt, q_gt, q_ge, q_add, q_sub, q_neg, q_abs, q_int, q_bool, q_eqI, q_neI, q_ix0, q_ix1, q_ix2, q_lenT, q_isInt, q_isBool, q_isTuple, q_isStr, p_is, tyD, tInt, tBool, tTuple, tStr, ok_zs_get, ok_zs_remove, ok_zs_put, ok_zs_add, ok_zs_sum, ok_zs_not_records, ok_zs_not_an_operation, ok_zs_part, ok_zs_merge, ok_zs_not_a_nest, ok_zs_abort, ok_zs_records, ok_zs_operation, ok_zs_nest, ok_z14, ok_zs_stop, ok_zs_Part, gl_KEYS, gl_HIGHEST, gl_ROUND, gl_ITEMS, gl_DEEP, gl_ENDS, xLc, itOf, itSeq, itR1, lcRun, lcF, turnE, wipeS, Rs.noexc, clnE, clean_pl, end_pl, q_px0, q_px1, cln_push, cln_push2, cln_push3, sFor, forRun]) (by show _ < 100000; rw [List.length_map]; omega)
      rw [keep_pairs, hF] at e
      refine e.trans ?_
      rw [newL_ok (by rw [List.length_map]; omega), mx_push, mx_len]
      rfl
    have i5 : prim .dict [.loc (m.len + 3)] (mx m [.lst (l.map pt), .dic (dk l), .lst (l.map pt), .lst (F.map pt)] []) = .ok (.loc (m.len + 4)) (mx m [.lst (l.map pt), .dic (dk l), .lst (l.map pt), .lst (F.map pt), .dic (dk F)] []) := by
      rw [q_dictP (mx_get m _ _ 3) hFn, mx_push, mx_len]
      rfl
    have c5 : clean (mx m [.lst (l.map pt), .dic (dk l)] []) (.loc (m.len + 4)) (mx m [.lst (l.map pt), .dic (dk l), .lst (l.map pt), .lst (F.map pt), .dic (dk F)] []) = .ok (.loc (m.len + 2)) (mx m [.lst (l.map pt), .dic (dk l), .dic (dk F)] []) :=
      clean_mxG m _ _ _ 4 (.dic (dk F)) (dk_nl F) rfl (Nat.le_succ_of_le (Nat.le_succ _))
    refine ⟨[.lst (l.map pt), .dic (dk l), .dic (dk F)], 2, ?_, ?_⟩
    · simp (decide := true) only [f25, Op.D, dstp, i1, i2, ct, g2, kd, c1 _ (nl_lkD l j), cc, i5, c5, et, q_eqS, q_neS, cln_mx, List.take_succ_cons, List.take_zero, eq_self, decide_true, decide_false, runFn, evSs, evS, evE, evL, evO, evB, evAndB, evOrB, evT, evAnd, evOr, evTs, sSeq, sRet, sPass, sAsg, sExpr, sIf, sRaise, sSetIx, sAug, xCall, xOfT, xAnd, xOr, xBol, xTru, xNot, xPr, xMe, xCons, xNil, xVar, xChain, xCB, xC, xIte, xTup, xLst, xDic, xSl, xAt, xNoP, okTup, okLst, getS, setS, startS, Rs.bind, Rs.then, Rt.and, boolR, truthR, truthD, okBl, asgT, asgTs, gl_ct, call_ct, fu_ct, end_next, end_exc, end_bl, end_int, end_str, end_non, end_tup, clean_bl, clean_int, clean_str, clean_non, clean_tup, nl_non, nl_bl, nl_int, nl_str, nl_tup, nl_loc, nlL_nil, nlL_cons, Bool.and_true, Bool.true_and, Bool.and_false, Bool.false_and, Bool.or_true, Bool.or_false, Bool.true_or, Bool.false_or, Bool.not_true, Bool.not_false, List.length_cons, List.length_nil, List.map_cons, List.map_nil, List.cons_append, List.nil_append, List.getElem?_cons_zero, List.getElem?_cons_succ, List.set_cons_zero, List.set_cons_succ, Nat.reduceAdd, Int.reduceSub, Int.reduceNeg, Nat.reduceSub, Nat.reduceBEq, List.replicate_succ, List.replicate_zero, if_true, if_false, reduceIte, beq_self_eq_true, cln_self, q_le, q_lt, q_gt, q_ge, q_add, q_sub, q_neg, q_abs, q_int, q_bool, q_eqI, q_neI, q_ix0, q_ix1, q_ix2, q_lenT, q_isInt, q_isBool, q_isTuple, q_isStr, p_is, tyD, tInt, tBool, tTuple, tStr, ok_zs_get, ok_zs_remove, ok_zs_put, ok_zs_add, ok_zs_sum, ok_zs_not_records, ok_zs_not_an_operation, ok_zs_part, ok_zs_merge, ok_zs_not_a_nest, ok_zs_abort, ok_zs_records, ok_zs_operation, ok_zs_nest, ok_z14, ok_zs_stop, ok_zs_Part, gl_KEYS, gl_HIGHEST, gl_ROUND, gl_ITEMS, gl_DEEP, gl_ENDS]
    · simp only [dstp, hF]
      rfl
  | add j x =>
    have p9 : ∀ m, prim .pow [.int 10, .int 9] m = .ok (.int 1000000000) m := fun m => rfl
    cases hl : lkO l j with
    | none =>
      have e : lkD l j = .non := by unfold lkD; rw [hl]
      refine ⟨[.lst (l.map pt), .dic (dk l)], 1, ?_, ?_⟩
      · simp (decide := true) only [f25, Op.D, dstp, hl, i1, i2, ct, g2, kd, e, q_notN, et, q_eqS, q_neS, cln_mx, List.take_succ_cons, List.take_zero, eq_self, decide_true, decide_false, runFn, evSs, evS, evE, evL, evO, evB, evAndB, evOrB, evT, evAnd, evOr, evTs, sSeq, sRet, sPass, sAsg, sExpr, sIf, sRaise, sSetIx, sAug, xCall, xOfT, xAnd, xOr, xBol, xTru, xNot, xPr, xMe, xCons, xNil, xVar, xChain, xCB, xC, xIte, xTup, xLst, xDic, xSl, xAt, xNoP, okTup, okLst, getS, setS, startS, Rs.bind, Rs.then, Rt.and, boolR, truthR, truthD, okBl, asgT, asgTs, gl_ct, call_ct, fu_ct, end_next, end_exc, end_bl, end_int, end_str, end_non, end_tup, clean_bl, clean_int, clean_str, clean_non, clean_tup, nl_non, nl_bl, nl_int, nl_str, nl_tup, nl_loc, nlL_nil, nlL_cons, Bool.and_true, Bool.true_and, Bool.and_false, Bool.false_and, Bool.or_true, Bool.or_false, Bool.true_or, Bool.false_or, Bool.not_true, Bool.not_false, List.length_cons, List.length_nil, List.map_cons, List.map_nil, List.cons_append, List.nil_append, List.getElem?_cons_zero, List.getElem?_cons_succ, List.set_cons_zero, List.set_cons_succ, Nat.reduceAdd, Int.reduceSub, Int.reduceNeg, Nat.reduceSub, Nat.reduceBEq, List.replicate_succ, List.replicate_zero, if_true, if_false, reduceIte, beq_self_eq_true, cln_self, q_le, q_lt, q_gt, q_ge, q_add, q_sub, q_neg, q_abs, q_int, q_bool, q_eqI, q_neI, q_ix0, q_ix1, q_ix2, q_lenT, q_isInt, q_isBool, q_isTuple, q_isStr, p_is, tyD, tInt, tBool, tTuple, tStr, ok_zs_get, ok_zs_remove, ok_zs_put, ok_zs_add, ok_zs_sum, ok_zs_not_records, ok_zs_not_an_operation, ok_zs_part, ok_zs_merge, ok_zs_not_a_nest, ok_zs_abort, ok_zs_records, ok_zs_operation, ok_zs_nest, ok_z14, ok_zs_stop, ok_zs_Part, gl_KEYS, gl_HIGHEST, gl_ROUND, gl_ITEMS, gl_DEEP, gl_ENDS]
      · simp only [dstp, hl]
        rfl
    | some b =>
      have e : lkD l j = .int b := by unfold lkD; rw [hl]
      refine ⟨[.lst (l.map pt), .dic (dk (putI l j (rdL (b + x))))], 1, ?_, ?_⟩
      · by_cases h1 : 1000000000 < b + x
        · have er : rdL (b + x) = b + x - 2000000001 := by unfold rdL; rw [if_pos h1]
          simp (decide := true) only [f25, Op.D, dstp, hl, i1, i2, ct, g2, kd, e, h1, er, p9, set1, sSetIx, memT, q_notN, et, q_eqS, q_neS, cln_mx, List.take_succ_cons, List.take_zero, eq_self, decide_true, decide_false, runFn, evSs, evS, evE, evL, evO, evB, evAndB, evOrB, evT, evAnd, evOr, evTs, sSeq, sRet, sPass, sAsg, sExpr, sIf, sRaise, sSetIx, sAug, xCall, xOfT, xAnd, xOr, xBol, xTru, xNot, xPr, xMe, xCons, xNil, xVar, xChain, xCB, xC, xIte, xTup, xLst, xDic, xSl, xAt, xNoP, okTup, okLst, getS, setS, startS, Rs.bind, Rs.then, Rt.and, boolR, truthR, truthD, okBl, asgT, asgTs, gl_ct, call_ct, fu_ct, end_next, end_exc, end_bl, end_int, end_str, end_non, end_tup, clean_bl, clean_int, clean_str, clean_non, clean_tup, nl_non, nl_bl, nl_int, nl_str, nl_tup, nl_loc, nlL_nil, nlL_cons, Bool.and_true, Bool.true_and, Bool.and_false, Bool.false_and, Bool.or_true, Bool.or_false, Bool.true_or, Bool.false_or, Bool.not_true, Bool.not_false, List.length_cons, List.length_nil, List.map_cons, List.map_nil, List.cons_append, List.nil_append, List.getElem?_cons_zero, List.getElem?_cons_succ, List.set_cons_zero, List.set_cons_succ, Nat.reduceAdd, Int.reduceSub, Int.reduceNeg, Nat.reduceSub, Nat.reduceBEq, List.replicate_succ, List.replicate_zero, if_true, if_false, reduceIte, beq_self_eq_true, cln_self, q_le, q_lt, q_gt, q_ge, q_add, q_sub, q_neg, q_abs, q_int, q_bool, q_eqI, q_neI, q_ix0, q_ix1, q_ix2, q_lenT, q_isInt, q_isBool, q_isTuple, q_isStr, p_is, tyD, tInt, tBool, tTuple, tStr, ok_zs_get, ok_zs_remove, ok_zs_put, ok_zs_add, ok_zs_sum, ok_zs_not_records, ok_zs_not_an_operation, ok_zs_part, ok_zs_merge, ok_zs_not_a_nest, ok_zs_abort, ok_zs_records, ok_zs_operation, ok_zs_nest, ok_z14, ok_zs_stop, ok_zs_Part, gl_KEYS, gl_HIGHEST, gl_ROUND, gl_ITEMS, gl_DEEP, gl_ENDS]
        · by_cases h2 : b + x < -1000000000
          · have er : rdL (b + x) = b + x + 2000000001 := by unfold rdL; rw [if_neg h1, if_pos h2]
            simp (decide := true) only [f25, Op.D, dstp, hl, i1, i2, ct, g2, kd, e, h1, h2, er, p9, set1, sSetIx, memT, q_notN, et, q_eqS, q_neS, cln_mx, List.take_succ_cons, List.take_zero, eq_self, decide_true, decide_false, runFn, evSs, evS, evE, evL, evO, evB, evAndB, evOrB, evT, evAnd, evOr, evTs, sSeq, sRet, sPass, sAsg, sExpr, sIf, sRaise, sSetIx, sAug, xCall, xOfT, xAnd, xOr, xBol, xTru, xNot, xPr, xMe, xCons, xNil, xVar, xChain, xCB, xC, xIte, xTup, xLst, xDic, xSl, xAt, xNoP, okTup, okLst, getS, setS, startS, Rs.bind, Rs.then, Rt.and, boolR, truthR, truthD, okBl, asgT, asgTs, gl_ct, call_ct, fu_ct, end_next, end_exc, end_bl, end_int, end_str, end_non, end_tup, clean_bl, clean_int, clean_str, clean_non, clean_tup, nl_non, nl_bl, nl_int, nl_str, nl_tup, nl_loc, nlL_nil, nlL_cons, Bool.and_true, Bool.true_and, Bool.and_false, Bool.false_and, Bool.or_true, Bool.or_false, Bool.true_or, Bool.false_or, Bool.not_true, Bool.not_false, List.length_cons, List.length_nil, List.map_cons, List.map_nil, List.cons_append, List.nil_append, List.getElem?_cons_zero, List.getElem?_cons_succ, List.set_cons_zero, List.set_cons_succ, Nat.reduceAdd, Int.reduceSub, Int.reduceNeg, Nat.reduceSub, Nat.reduceBEq, List.replicate_succ, List.replicate_zero, if_true, if_false, reduceIte, beq_self_eq_true, cln_self, q_le, q_lt, q_gt, q_ge, q_add, q_sub, q_neg, q_abs, q_int, q_bool, q_eqI, q_neI, q_ix0, q_ix1, q_ix2, q_lenT, q_isInt, q_isBool, q_isTuple, q_isStr, p_is, tyD, tInt, tBool, tTuple, tStr, ok_zs_get, ok_zs_remove, ok_zs_put, ok_zs_add, ok_zs_sum, ok_zs_not_records, ok_zs_not_an_operation, ok_zs_part, ok_zs_merge, ok_zs_not_a_nest, ok_zs_abort, ok_zs_records, ok_zs_operation, ok_zs_nest, ok_z14, ok_zs_stop, ok_zs_Part, gl_KEYS, gl_HIGHEST, gl_ROUND, gl_ITEMS, gl_DEEP, gl_ENDS]
          · have er : rdL (b + x) = b + x := by unfold rdL; rw [if_neg h1, if_neg h2]
            simp (decide := true) only [f25, Op.D, dstp, hl, i1, i2, ct, g2, kd, e, h1, h2, er, p9, set1, sSetIx, memT, q_notN, et, q_eqS, q_neS, cln_mx, List.take_succ_cons, List.take_zero, eq_self, decide_true, decide_false, runFn, evSs, evS, evE, evL, evO, evB, evAndB, evOrB, evT, evAnd, evOr, evTs, sSeq, sRet, sPass, sAsg, sExpr, sIf, sRaise, sSetIx, sAug, xCall, xOfT, xAnd, xOr, xBol, xTru, xNot, xPr, xMe, xCons, xNil, xVar, xChain, xCB, xC, xIte, xTup, xLst, xDic, xSl, xAt, xNoP, okTup, okLst, getS, setS, startS, Rs.bind, Rs.then, Rt.and, boolR, truthR, truthD, okBl, asgT, asgTs, gl_ct, call_ct, fu_ct, end_next, end_exc, end_bl, end_int, end_str, end_non, end_tup, clean_bl, clean_int, clean_str, clean_non, clean_tup, nl_non, nl_bl, nl_int, nl_str, nl_tup, nl_loc, nlL_nil, nlL_cons, Bool.and_true, Bool.true_and, Bool.and_false, Bool.false_and, Bool.or_true, Bool.or_false, Bool.true_or, Bool.false_or, Bool.not_true, Bool.not_false, List.length_cons, List.length_nil, List.map_cons, List.map_nil, List.cons_append, List.nil_append, List.getElem?_cons_zero, List.getElem?_cons_succ, List.set_cons_zero, List.set_cons_succ, Nat.reduceAdd, Int.reduceSub, Int.reduceNeg, Nat.reduceSub, Nat.reduceBEq, List.replicate_succ, List.replicate_zero, if_true, if_false, reduceIte, beq_self_eq_true, cln_self, q_le, q_lt, q_gt, q_ge, q_add, q_sub, q_neg, q_abs, q_int, q_bool, q_eqI, q_neI, q_ix0, q_ix1, q_ix2, q_lenT, q_isInt, q_isBool, q_isTuple, q_isStr, p_is, tyD, tInt, tBool, tTuple, tStr, ok_zs_get, ok_zs_remove, ok_zs_put, ok_zs_add, ok_zs_sum, ok_zs_not_records, ok_zs_not_an_operation, ok_zs_part, ok_zs_merge, ok_zs_not_a_nest, ok_zs_abort, ok_zs_records, ok_zs_operation, ok_zs_nest, ok_z14, ok_zs_stop, ok_zs_Part, gl_KEYS, gl_HIGHEST, gl_ROUND, gl_ITEMS, gl_DEEP, gl_ENDS]
      · simp only [dstp, hl]
        rfl
end T02

set_option Elab.async false
set_option linter.all false
set_option maxRecDepth 100000
set_option maxHeartbeats 1000000
namespace T02
open NV PySem
/-! nests -/
theorem is_part_op (n : Nat) (o : Op) (m : Mem) : (callL tb (n + 1)).1 13 [o.D] m = .ok (.bl false) m := by
  rw [call_s (fd := f13) rfl]
  cases o <;> simp (decide := true) only [f13, Op.D, q_eqS, eq_self, decide_true, decide_false, runFn, evSs, evS, evE, evL, evO, evB, evAndB, evOrB, evT, evAnd, evOr, evTs, sSeq, sRet, sPass, sAsg, sExpr, sIf, sRaise, sSetIx, sAug, xCall, xOfT, xAnd, xOr, xBol, xTru, xNot, xPr, xMe, xCons, xNil, xVar, xChain, xCB, xC, xIte, xTup, xLst, xDic, xSl, xAt, xNoP, okTup, okLst, getS, setS, startS, Rs.bind, Rs.then, Rt.and, boolR, truthR, truthD, okBl, asgT, asgTs, gl_ct, call_ct, fu_ct, end_next, end_exc, end_bl, end_int, end_str, end_non, end_tup, clean_bl, clean_int, clean_str, clean_non, clean_tup, nl_non, nl_bl, nl_int, nl_str, nl_tup, nl_loc, nlL_nil, nlL_cons, Bool.and_true, Bool.true_and, Bool.and_false, Bool.false_and, Bool.or_true, Bool.or_false, Bool.true_or, Bool.false_or, Bool.not_true, Bool.not_false, List.length_cons, List.length_nil, List.map_cons, List.map_nil, List.cons_append, List.nil_append, List.getElem?_cons_zero, List.getElem?_cons_succ, List.set_cons_zero, List.set_cons_succ, Nat.reduceAdd, Int.reduceSub, Int.reduceNeg, Nat.reduceSub, Nat.reduceBEq, List.replicate_succ, List.replicate_zero, if_true, if_false, reduceIte, beq_self_eq_true, cln_self, q_le, q_lt, q_gt, q_ge, q_add, q_sub, q_neg, q_abs, q_int, q_bool, q_eqI, q_neI, q_ix0, q_ix1, q_ix2, q_lenT, q_isInt, q_isBool, q_isTuple, q_isStr, p_is, tyD, tInt, tBool, tTuple, tStr, ok_zs_get, ok_zs_remove, ok_zs_put, ok_zs_add, ok_zs_sum, ok_zs_not_records, ok_zs_not_an_operation, ok_zs_part, ok_zs_merge, ok_zs_not_a_nest, ok_zs_abort, ok_zs_records, ok_zs_operation, ok_zs_nest, ok_z14, ok_zs_stop, ok_zs_Part, gl_KEYS, gl_HIGHEST, gl_ROUND, gl_ITEMS, gl_DEEP, gl_ENDS]
theorem is_part_p (n : Nat) (x y : D) (m : Mem) : (callL tb (n + 1)).1 13 [.tup [.str zs_part, x, y]] m = .ok (.bl true) m := by
  rw [call_s (fd := f13) rfl]
  simp (decide := true) only [f13, q_eqS, eq_self, decide_true, decide_false, runFn, evSs, evS, evE, evL, evO, evB, evAndB, evOrB, evT, evAnd, evOr, evTs, sSeq, sRet, sPass, sAsg, sExpr, sIf, sRaise, sSetIx, sAug, xCall, xOfT, xAnd, xOr, xBol, xTru, xNot, xPr, xMe, xCons, xNil, xVar, xChain, xCB, xC, xIte, xTup, xLst, xDic, xSl, xAt, xNoP, okTup, okLst, getS, setS, startS, Rs.bind, Rs.then, Rt.and, boolR, truthR, truthD, okBl, asgT, asgTs, gl_ct, call_ct, fu_ct, end_next, end_exc, end_bl, end_int, end_str, end_non, end_tup, clean_bl, clean_int, clean_str, clean_non, clean_tup, nl_non, nl_bl, nl_int, nl_str, nl_tup, nl_loc, nlL_nil, nlL_cons, Bool.and_true, Bool.true_and, Bool.and_false, Bool.false_and, Bool.or_true, Bool.or_false, Bool.true_or, Bool.false_or, Bool.not_true, Bool.not_false, List.length_cons, List.length_nil, List.map_cons, List.map_nil, List.cons_append, List.nil_append, List.getElem?_cons_zero, List.getElem?_cons_succ, List.set_cons_zero, List.set_cons_succ, Nat.reduceAdd, Int.reduceSub, Int.reduceNeg, Nat.reduceSub, Nat.reduceBEq, List.replicate_succ, List.replicate_zero, if_true, if_false, reduceIte, beq_self_eq_true, cln_self, q_le, q_lt, q_gt, q_ge, q_add, q_sub, q_neg, q_abs, q_int, q_bool, q_eqI, q_neI, q_ix0, q_ix1, q_ix2, q_lenT, q_isInt, q_isBool, q_isTuple, q_isStr, p_is, tyD, tInt, tBool, tTuple, tStr, ok_zs_get, ok_zs_remove, ok_zs_put, ok_zs_add, ok_zs_sum, ok_zs_not_records, ok_zs_not_an_operation, ok_zs_part, ok_zs_merge, ok_zs_not_a_nest, ok_zs_abort, ok_zs_records, ok_zs_operation, ok_zs_nest, ok_z14, ok_zs_stop, ok_zs_Part, gl_KEYS, gl_HIGHEST, gl_ROUND, gl_ITEMS, gl_DEEP, gl_ENDS]
theorem fits_item_op (n : Nat) (o : Op) (h : o.ok) (m : Mem) : (callL tb (n + 4)).1 14 [o.D] m = .ok (.bl true) m := by
  rw [call_s (fd := f14) rfl]
  have f := fun m => fits_op n o h m
  cases o <;> simp only [Op.D] at f ⊢ <;> simp (decide := true) only [f14, is_tuple_t, q_eqS, f, eq_self, decide_true, decide_false, runFn, evSs, evS, evE, evL, evO, evB, evAndB, evOrB, evT, evAnd, evOr, evTs, sSeq, sRet, sPass, sAsg, sExpr, sIf, sRaise, sSetIx, sAug, xCall, xOfT, xAnd, xOr, xBol, xTru, xNot, xPr, xMe, xCons, xNil, xVar, xChain, xCB, xC, xIte, xTup, xLst, xDic, xSl, xAt, xNoP, okTup, okLst, getS, setS, startS, Rs.bind, Rs.then, Rt.and, boolR, truthR, truthD, okBl, asgT, asgTs, gl_ct, call_ct, fu_ct, end_next, end_exc, end_bl, end_int, end_str, end_non, end_tup, clean_bl, clean_int, clean_str, clean_non, clean_tup, nl_non, nl_bl, nl_int, nl_str, nl_tup, nl_loc, nlL_nil, nlL_cons, Bool.and_true, Bool.true_and, Bool.and_false, Bool.false_and, Bool.or_true, Bool.or_false, Bool.true_or, Bool.false_or, Bool.not_true, Bool.not_false, List.length_cons, List.length_nil, List.map_cons, List.map_nil, List.cons_append, List.nil_append, List.getElem?_cons_zero, List.getElem?_cons_succ, List.set_cons_zero, List.set_cons_succ, Nat.reduceAdd, Int.reduceSub, Int.reduceNeg, Nat.reduceSub, Nat.reduceBEq, List.replicate_succ, List.replicate_zero, if_true, if_false, reduceIte, beq_self_eq_true, cln_self, q_le, q_lt, q_gt, q_ge, q_add, q_sub, q_neg, q_abs, q_int, q_bool, q_eqI, q_neI, q_ix0, q_ix1, q_ix2, q_lenT, q_isInt, q_isBool, q_isTuple, q_isStr, p_is, tyD, tInt, tBool, tTuple, tStr, ok_zs_get, ok_zs_remove, ok_zs_put, ok_zs_add, ok_zs_sum, ok_zs_not_records, ok_zs_not_an_operation, ok_zs_part, ok_zs_merge, ok_zs_not_a_nest, ok_zs_abort, ok_zs_records, ok_zs_operation, ok_zs_nest, ok_z14, ok_zs_stop, ok_zs_Part, gl_KEYS, gl_HIGHEST, gl_ROUND, gl_ITEMS, gl_DEEP, gl_ENDS]
theorem fits_item_p (n : Nat) (l : Ns) (b : Bool) (h : l.Ds.length ≤ 40) (m : Mem) : (callL tb (n + 4)).1 14 [.tup [.str zs_part, .tup l.Ds, .str (endS b)]] m = .ok (.bl true) m := by
  rw [call_s (fd := f14) rfl]
  have h1 : decide ((0 : Int) ≤ l.Ds.length) = true := decide_eq_true (by omega)
  have h2 : decide ((l.Ds.length : Int) ≤ 40) = true := decide_eq_true (by omega)
  cases b <;> simp (decide := true) only [f14, endS, is_tuple_t, q_eqS, q_inS2, h1, h2, eq_self, decide_true, decide_false, runFn, evSs, evS, evE, evL, evO, evB, evAndB, evOrB, evT, evAnd, evOr, evTs, sSeq, sRet, sPass, sAsg, sExpr, sIf, sRaise, sSetIx, sAug, xCall, xOfT, xAnd, xOr, xBol, xTru, xNot, xPr, xMe, xCons, xNil, xVar, xChain, xCB, xC, xIte, xTup, xLst, xDic, xSl, xAt, xNoP, okTup, okLst, getS, setS, startS, Rs.bind, Rs.then, Rt.and, boolR, truthR, truthD, okBl, asgT, asgTs, gl_ct, call_ct, fu_ct, end_next, end_exc, end_bl, end_int, end_str, end_non, end_tup, clean_bl, clean_int, clean_str, clean_non, clean_tup, nl_non, nl_bl, nl_int, nl_str, nl_tup, nl_loc, nlL_nil, nlL_cons, Bool.and_true, Bool.true_and, Bool.and_false, Bool.false_and, Bool.or_true, Bool.or_false, Bool.true_or, Bool.false_or, Bool.not_true, Bool.not_false, List.length_cons, List.length_nil, List.map_cons, List.map_nil, List.cons_append, List.nil_append, List.getElem?_cons_zero, List.getElem?_cons_succ, List.set_cons_zero, List.set_cons_succ, Nat.reduceAdd, Int.reduceSub, Int.reduceNeg, Nat.reduceSub, Nat.reduceBEq, List.replicate_succ, List.replicate_zero, if_true, if_false, reduceIte, beq_self_eq_true, cln_self, q_le, q_lt, q_gt, q_ge, q_add, q_sub, q_neg, q_abs, q_int, q_bool, q_eqI, q_neI, q_ix0, q_ix1, q_ix2, q_lenT, q_isInt, q_isBool, q_isTuple, q_isStr, p_is, tyD, tInt, tBool, tTuple, tStr, ok_zs_get, ok_zs_remove, ok_zs_put, ok_zs_add, ok_zs_sum, ok_zs_not_records, ok_zs_not_an_operation, ok_zs_part, ok_zs_merge, ok_zs_not_a_nest, ok_zs_abort, ok_zs_records, ok_zs_operation, ok_zs_nest, ok_z14, ok_zs_stop, ok_zs_Part, gl_KEYS, gl_HIGHEST, gl_ROUND, gl_ITEMS, gl_DEEP, gl_ENDS]
theorem nest_turn (n : Nat) (m : Mem) (W : List (It1 × Nat)) (i : It1) (d : Nat) (many : Nat) (gs : List Ob) (V : D) (x3 x4 x5 : Option D) (hz : many + (wsum W + i.cnt) ≤ 40) (hk : i.ok) (hd : 1 ≤ d ∧ d + i.dep ≤ 6) :
    ∃ (W2 : List (It1 × Nat)) (gs2 : List Ob) (y3 y4 y5 : Option D), wsum W2 + 1 = wsum W + i.cnt ∧ (∀ p ∈ W2, p ∈ W ∨ (p.1.ok ∧ 1 ≤ p.2 ∧ p.2 + p.1.dep ≤ 6)) ∧
      evSs (Cn (n + 5)) b15_4 [some V, some (.loc m.len), some (.int many), x3, x4, x5] (mx m (.lst ((W ++ [(i, d)]).map en) :: gs) []) = .next [some V, some (.loc m.len), some (.int (many + 1 : Nat)), y3, y4, y5] (mx m (.lst (W2.map en) :: gs2) []) := by
  have ew : (W ++ [(i, d)]).map en = W.map en ++ [en (i, d)] := by rw [List.map_append]; rfl
  rw [ew]
  have p0 := q_pop0 (m := m) (os := gs) (u := []) (xs := W.map en) (x := en (i, d))
  have kd : kindOk .pop0 (.loc m.len) (mx m (.lst (W.map en ++ [en (i, d)]) :: gs) []) = true := isLst_of (mx_get0 m _ _)
  have c0 : clean (mx m (.lst (W.map en ++ [en (i, d)]) :: gs) []) (en (i, d)) (mx m (.lst (W.map en) :: gs) []) = .ok (en (i, d)) (mx m (.lst (W.map en) :: gs) []) := by
    rw [clean_nl (by simp only [en, nl_tup, nlL_cons, nl_its, nl_int, nlL_nil, Bool.and_true]), cln_mx]
    simp
  have i1 : 1 ≤ i.cnt := by cases i <;> simp only [It1.cnt] <;> omega
  have h40 : decide ((40 : Int) < (many : Int) + 1) = false := decide_eq_false (by omega)
  have em : ((many + 1 : Nat) : Int) = (many : Int) + 1 := by omega
  have ce : ∀ (os : List Ob), cln (mx m os []) (mx m os []) = mx m os [] := fun os => by rw [cln_mx, List.take_length]
  have hn3 : ∀ (x y : D) (s : Sl), asgT (.tp [.nm 3, .nm 4]) (.tup [x, y]) s = some ((s.set 3 (some x)).set 4 (some y)) := fun _ _ _ => rfl
  cases i with
  | op o =>
    have f1 := fun m => fits_item_op (n + 1) o hk m
    have f2 := fun m => is_part_op (n + 4) o m
    refine ⟨W, gs, some o.D, some (.int d), x5, by simp only [It1.cnt], fun p hp => .inl hp, ?_⟩
    simp only [en, It1.D] at p0 kd c0 ⊢
    simp (decide := true) only [b15_4, kd, p0, c0, f1, f2, h40, em, ce, eq_self, decide_true, decide_false, runFn, evSs, evS, evE, evL, evO, evB, evAndB, evOrB, evT, evAnd, evOr, evTs, sSeq, sRet, sPass, sAsg, sExpr, sIf, sRaise, sSetIx, sAug, xCall, xOfT, xAnd, xOr, xBol, xTru, xNot, xPr, xMe, xCons, xNil, xVar, xChain, xCB, xC, xIte, xTup, xLst, xDic, xSl, xAt, xNoP, okTup, okLst, getS, setS, startS, Rs.bind, Rs.then, Rt.and, boolR, truthR, truthD, okBl, asgT, asgTs, gl_ct, call_ct, fu_ct, end_next, end_exc, end_bl, end_int, end_str, end_non, end_tup, clean_bl, clean_int, clean_str, clean_non, clean_tup, nl_non, nl_bl, nl_int, nl_str, nl_tup, nl_loc, nlL_nil, nlL_cons, Bool.and_true, Bool.true_and, Bool.and_false, Bool.false_and, Bool.or_true, Bool.or_false, Bool.true_or, Bool.false_or, Bool.not_true, Bool.not_false, List.length_cons, List.length_nil, List.map_cons, List.map_nil, List.cons_append, List.nil_append, List.getElem?_cons_zero, List.getElem?_cons_succ, List.set_cons_zero, List.set_cons_succ, Nat.reduceAdd, Int.reduceSub, Int.reduceNeg, Nat.reduceSub, Nat.reduceBEq, List.replicate_succ, List.replicate_zero, if_true, if_false, reduceIte, beq_self_eq_true, cln_self, q_le, q_lt, q_gt, q_ge, q_add, q_sub, q_neg, q_abs, q_int, q_bool, q_eqI, q_neI, q_ix0, q_ix1, q_ix2, q_lenT, q_isInt, q_isBool, q_isTuple, q_isStr, p_is, tyD, tInt, tBool, tTuple, tStr, ok_zs_get, ok_zs_remove, ok_zs_put, ok_zs_add, ok_zs_sum, ok_zs_not_records, ok_zs_not_an_operation, ok_zs_part, ok_zs_merge, ok_zs_not_a_nest, ok_zs_abort, ok_zs_records, ok_zs_operation, ok_zs_nest, ok_z14, ok_zs_stop, ok_zs_Part, gl_KEYS, gl_HIGHEST, gl_ROUND, gl_ITEMS, gl_DEEP, gl_ENDS]
  | part l b =>
    simp only [It1.cnt, It1.dep, It1.ok] at hz hk hd
    have hl := Ds_len l
    have f1 := fun m => fits_item_p (n + 1) l b (by omega) m
    have f2 := fun m => is_part_p (n + 4) (.tup l.Ds) (.str (endS b)) m
    have h6 : ((d : Int) = 6) = False := by simp; omega
    have cc : ∀ os x4, evE (Cn (n + 5)) c15_3 [some V, some (.loc m.len), some (.int ((many : Int) + 1)), some (.tup [.str zs_part, .tup l.Ds, .str (endS b)]), some (.int d), x4] (mx m os []) = newL (mx m os []) ((l.its.map fun i => (i, d + 1)).map en) := fun os x4 => by
      rw [← en_its (d + 1) l]
      refine lc_gen (d := .tup l.Ds) ?_ rfl (fun x hx => ?_) ?_
      · simp only [eq_self, decide_true, decide_false, runFn, evSs, evS, evE, evL, evO, evB, evAndB, evOrB, evT, evAnd, evOr, evTs, sSeq, sRet, sPass, sAsg, sExpr, sIf, sRaise, sSetIx, sAug, xCall, xOfT, xAnd, xOr, xBol, xTru, xNot, xPr, xMe, xCons, xNil, xVar, xChain, xCB, xC, xIte, xTup, xLst, xDic, xSl, xAt, xNoP, okTup, okLst, getS, setS, startS, Rs.bind, Rs.then, Rt.and, boolR, truthR, truthD, okBl, asgT, asgTs, gl_ct, call_ct, fu_ct, end_next, end_exc, end_bl, end_int, end_str, end_non, end_tup, clean_bl, clean_int, clean_str, clean_non, clean_tup, nl_non, nl_bl, nl_int, nl_str, nl_tup, nl_loc, nlL_nil, nlL_cons, Bool.and_true, Bool.true_and, Bool.and_false, Bool.false_and, Bool.or_true, Bool.or_false, Bool.true_or, Bool.false_or, Bool.not_true, Bool.not_false, List.length_cons, List.length_nil, List.map_cons, List.map_nil, List.cons_append, List.nil_append, List.getElem?_cons_zero, List.getElem?_cons_succ, List.set_cons_zero, List.set_cons_succ, Nat.reduceAdd, Int.reduceSub, Int.reduceNeg, Nat.reduceSub, Nat.reduceBEq, List.replicate_succ, List.replicate_zero, if_true, if_false, reduceIte, beq_self_eq_true, cln_self, q_le, q_lt, q_gt, q_ge, q_add, q_sub, q_neg, q_abs, q_int, q_bool, q_eqI, q_neI, q_ix0, q_ix1, q_ix2, q_lenT, q_isInt, q_isBool, q_isTuple, q_isStr, p_is, tyD, tInt, tBool, tTuple, tStr, ok_zs_get, ok_zs_remove, ok_zs_put, ok_zs_add, ok_zs_sum, ok_zs_not_records, ok_zs_not_an_operation, ok_zs_part, ok_zs_merge, ok_zs_not_a_nest, ok_zs_abort, ok_zs_records, ok_zs_operation, ok_zs_nest, ok_z14, ok_zs_stop, ok_zs_Part, gl_KEYS, gl_HIGHEST, gl_ROUND, gl_ITEMS, gl_DEEP, gl_ENDS]
      · have e1 : ((d + 1 : Nat) : Int) = (d : Int) + 1 := by omega
        simp (decide := true) only [x15_2, e1, ite_self, eq_self, decide_true, decide_false, runFn, evSs, evS, evE, evL, evO, evB, evAndB, evOrB, evT, evAnd, evOr, evTs, sSeq, sRet, sPass, sAsg, sExpr, sIf, sRaise, sSetIx, sAug, xCall, xOfT, xAnd, xOr, xBol, xTru, xNot, xPr, xMe, xCons, xNil, xVar, xChain, xCB, xC, xIte, xTup, xLst, xDic, xSl, xAt, xNoP, okTup, okLst, getS, setS, startS, Rs.bind, Rs.then, Rt.and, boolR, truthR, truthD, okBl, asgT, asgTs, gl_ct, call_ct, fu_ct, end_next, end_exc, end_bl, end_int, end_str, end_non, end_tup, clean_bl, clean_int, clean_str, clean_non, clean_tup, nl_non, nl_bl, nl_int, nl_str, nl_tup, nl_loc, nlL_nil, nlL_cons, Bool.and_true, Bool.true_and, Bool.and_false, Bool.false_and, Bool.or_true, Bool.or_false, Bool.true_or, Bool.false_or, Bool.not_true, Bool.not_false, List.length_cons, List.length_nil, List.map_cons, List.map_nil, List.cons_append, List.nil_append, List.getElem?_cons_zero, List.getElem?_cons_succ, List.set_cons_zero, List.set_cons_succ, Nat.reduceAdd, Int.reduceSub, Int.reduceNeg, Nat.reduceSub, Nat.reduceBEq, List.replicate_succ, List.replicate_zero, if_true, if_false, reduceIte, beq_self_eq_true, cln_self, q_le, q_lt, q_gt, q_ge, q_add, q_sub, q_neg, q_abs, q_int, q_bool, q_eqI, q_neI, q_ix0, q_ix1, q_ix2, q_lenT, q_isInt, q_isBool, q_isTuple, q_isStr, p_is, tyD, tInt, tBool, tTuple, tStr, ok_zs_get, ok_zs_remove, ok_zs_put, ok_zs_add, ok_zs_sum, ok_zs_not_records, ok_zs_not_an_operation, ok_zs_part, ok_zs_merge, ok_zs_not_a_nest, ok_zs_abort, ok_zs_records, ok_zs_operation, ok_zs_nest, ok_z14, ok_zs_stop, ok_zs_Part, gl_KEYS, gl_HIGHEST, gl_ROUND, gl_ITEMS, gl_DEEP, gl_ENDS, xLc, itOf, itSeq, itR1, lcRun, lcF, turnE, wipeS, Rs.noexc, clnE, clean_pl, end_pl, q_px0, q_px1, cln_push, cln_push2, cln_push3, sFor, forRun]
      · show _ < 100000
        omega
    have il := its_len l
    have wl := wsum_len W
    have nL : newL (mx m (.lst (W.map en) :: gs) []) ((l.its.map fun i => (i, d + 1)).map en) = .ok (.loc (m.len + (gs.length + 1))) (mx m (.lst (W.map en) :: (gs ++ [.lst ((l.its.map fun i => (i, d + 1)).map en)])) []) := by
      rw [newL_mx _ _ _ (by rw [List.length_map, List.length_map]; omega)]
      rfl
    have ag := aug_mx (m := m) (os := gs) (xs := W.map en) (ys := (l.its.map fun i => (i, d + 1)).map en) (by rw [List.length_map, List.length_map, List.length_map]; omega) (en_nl _)
    refine ⟨W ++ l.its.map fun i => (i, d + 1), gs ++ [.lst ((l.its.map fun i => (i, d + 1)).map en)], some (.tup [.str zs_part, .tup l.Ds, .str (endS b)]), some (.int d), x5, ?_, ?_, ?_⟩
    · rw [wsum_app, wsum_its]
      simp only [It1.cnt]
      omega
    · intro p hp
      rcases List.mem_append.mp hp with h | h
      · exact .inl h
      · obtain ⟨j, hj, rfl⟩ := List.mem_map.mp h
        obtain ⟨a1, a2, _⟩ := its_in l hk j hj
        exact .inr ⟨a1, Nat.le_add_left _ _, by simp only; omega⟩
    · have ma : (W ++ l.its.map fun i => (i, d + 1)).map en = W.map en ++ (l.its.map fun i => (i, d + 1)).map en := List.map_append
      rw [ma]
      simp only [en, It1.D] at p0 kd c0 ⊢
      simp (decide := true) only [b15_4, kd, p0, c0, f1, f2, h40, em, ce, q_eqI, h6, cc, nL, ag, sAug, decide_false, eq_self, decide_true, decide_false, runFn, evSs, evS, evE, evL, evO, evB, evAndB, evOrB, evT, evAnd, evOr, evTs, sSeq, sRet, sPass, sAsg, sExpr, sIf, sRaise, sSetIx, sAug, xCall, xOfT, xAnd, xOr, xBol, xTru, xNot, xPr, xMe, xCons, xNil, xVar, xChain, xCB, xC, xIte, xTup, xLst, xDic, xSl, xAt, xNoP, okTup, okLst, getS, setS, startS, Rs.bind, Rs.then, Rt.and, boolR, truthR, truthD, okBl, asgT, asgTs, gl_ct, call_ct, fu_ct, end_next, end_exc, end_bl, end_int, end_str, end_non, end_tup, clean_bl, clean_int, clean_str, clean_non, clean_tup, nl_non, nl_bl, nl_int, nl_str, nl_tup, nl_loc, nlL_nil, nlL_cons, Bool.and_true, Bool.true_and, Bool.and_false, Bool.false_and, Bool.or_true, Bool.or_false, Bool.true_or, Bool.false_or, Bool.not_true, Bool.not_false, List.length_cons, List.length_nil, List.map_cons, List.map_nil, List.cons_append, List.nil_append, List.getElem?_cons_zero, List.getElem?_cons_succ, List.set_cons_zero, List.set_cons_succ, Nat.reduceAdd, Int.reduceSub, Int.reduceNeg, Nat.reduceSub, Nat.reduceBEq, List.replicate_succ, List.replicate_zero, if_true, if_false, reduceIte, beq_self_eq_true, cln_self, q_le, q_lt, q_gt, q_ge, q_add, q_sub, q_neg, q_abs, q_int, q_bool, q_eqI, q_neI, q_ix0, q_ix1, q_ix2, q_lenT, q_isInt, q_isBool, q_isTuple, q_isStr, p_is, tyD, tInt, tBool, tTuple, tStr, ok_zs_get, ok_zs_remove, ok_zs_put, ok_zs_add, ok_zs_sum, ok_zs_not_records, ok_zs_not_an_operation, ok_zs_part, ok_zs_merge, ok_zs_not_a_nest, ok_zs_abort, ok_zs_records, ok_zs_operation, ok_zs_nest, ok_z14, ok_zs_stop, ok_zs_Part, gl_KEYS, gl_HIGHEST, gl_ROUND, gl_ITEMS, gl_DEEP, gl_ENDS]
theorem nest_loop (n : Nat) (m : Mem) (V : D) : ∀ (fu : Nat) (W : List (It1 × Nat)) (many : Nat) (gs : List Ob) (x3 x4 x5 : Option D), wsum W < fu → many + wsum W ≤ 40 → (∀ p ∈ W, p.1.ok ∧ 1 ≤ p.2 ∧ p.2 + p.1.dep ≤ 6) →
    ∃ (os : List Ob) (s' : Sl), whlI (evT (Cn (n + 5)) (.val (.pr .ne [.var 1, .lst []]))) (evSs (Cn (n + 5)) b15_4) fu [some V, some (.loc m.len), some (.int many), x3, x4, x5] (mx m (.lst (W.map en) :: gs) []) = .next s' (mx m os [])
  | 0, W, many, gs, x3, x4, x5, h, _, _ => by omega
  | fu + 1, W, many, gs, x3, x4, x5, h, hz, hw => by
    have nn : newL (mx m (.lst (W.map en) :: gs) []) [] = .ok (.loc (mx m (.lst (W.map en) :: gs) []).len) ((mx m (.lst (W.map en) :: gs) []).push (.lst [])) := newL_ok (by decide)
    have q := q_neNil (mx_get0 m (.lst (W.map en) :: gs) [])
    have t : evT (Cn (n + 5)) (.val (.pr .ne [.var 1, .lst []])) [some V, some (.loc m.len), some (.int many), x3, x4, x5] (mx m (.lst (W.map en) :: gs) []) = .ok (!(W.map en).isEmpty) ((mx m (.lst (W.map en) :: gs) []).push (.lst [])) := by
      simp (decide := true) only [nn, q, eq_self, decide_true, decide_false, runFn, evSs, evS, evE, evL, evO, evB, evAndB, evOrB, evT, evAnd, evOr, evTs, sSeq, sRet, sPass, sAsg, sExpr, sIf, sRaise, sSetIx, sAug, xCall, xOfT, xAnd, xOr, xBol, xTru, xNot, xPr, xMe, xCons, xNil, xVar, xChain, xCB, xC, xIte, xTup, xLst, xDic, xSl, xAt, xNoP, okTup, okLst, getS, setS, startS, Rs.bind, Rs.then, Rt.and, boolR, truthR, truthD, okBl, asgT, asgTs, gl_ct, call_ct, fu_ct, end_next, end_exc, end_bl, end_int, end_str, end_non, end_tup, clean_bl, clean_int, clean_str, clean_non, clean_tup, nl_non, nl_bl, nl_int, nl_str, nl_tup, nl_loc, nlL_nil, nlL_cons, Bool.and_true, Bool.true_and, Bool.and_false, Bool.false_and, Bool.or_true, Bool.or_false, Bool.true_or, Bool.false_or, Bool.not_true, Bool.not_false, List.length_cons, List.length_nil, List.map_cons, List.map_nil, List.cons_append, List.nil_append, List.getElem?_cons_zero, List.getElem?_cons_succ, List.set_cons_zero, List.set_cons_succ, Nat.reduceAdd, Int.reduceSub, Int.reduceNeg, Nat.reduceSub, Nat.reduceBEq, List.replicate_succ, List.replicate_zero, if_true, if_false, reduceIte, beq_self_eq_true, cln_self, q_le, q_lt, q_gt, q_ge, q_add, q_sub, q_neg, q_abs, q_int, q_bool, q_eqI, q_neI, q_ix0, q_ix1, q_ix2, q_lenT, q_isInt, q_isBool, q_isTuple, q_isStr, p_is, tyD, tInt, tBool, tTuple, tStr, ok_zs_get, ok_zs_remove, ok_zs_put, ok_zs_add, ok_zs_sum, ok_zs_not_records, ok_zs_not_an_operation, ok_zs_part, ok_zs_merge, ok_zs_not_a_nest, ok_zs_abort, ok_zs_records, ok_zs_operation, ok_zs_nest, ok_z14, ok_zs_stop, ok_zs_Part, gl_KEYS, gl_HIGHEST, gl_ROUND, gl_ITEMS, gl_DEEP, gl_ENDS]
    unfold whlI
    rw [t]
    simp only [Rs.then, cln_push]
    rcases List.eq_nil_or_concat W with rfl | ⟨W', p, rfl⟩
    · exact ⟨_, _, rfl⟩
    · obtain ⟨i, d⟩ := p
      rw [List.concat_eq_append] at h hz hw ⊢
      have hwi := hw (i, d) (by simp)
      have ws : wsum (W' ++ [(i, d)]) = wsum W' + i.cnt := by rw [wsum_app]; simp [wsum]
      rw [ws] at h hz
      obtain ⟨W2, gs2, y3, y4, y5, a1, a2, a3⟩ := nest_turn n m W' i d many gs V x3 x4 x5 hz hwi.1 hwi.2
      obtain ⟨os, s', e⟩ := nest_loop n m V fu W2 (many + 1) gs2 y3 y4 y5 (by omega) (by omega) fun p hp => (a2 p hp).elim (fun z => hw p (List.mem_append_left _ z)) id
      refine ⟨os, s', ?_⟩
      have ne : (!((W' ++ [(i, d)]).map en).isEmpty) = true := by simp
      rw [ne]
      simp only [a3]
      exact e
theorem fits_nest_eq (n : Nat) (l : Ns) (hk : l.ok) (hc : l.cnt ≤ 40) (hd : l.dep ≤ 5) (m : Mem) : (callL tb (n + 6)).1 15 [.tup l.Ds] m = .ok (.bl true) m := by
  have hl := Ds_len l
  have il := its_len l
  have h1 : decide ((0 : Int) ≤ l.Ds.length) = true := decide_eq_true (by omega)
  have h2 : decide ((l.Ds.length : Int) ≤ 40) = true := decide_eq_true (by omega)
  have cc : evE (Cn (n + 5)) c15_1 [some (.tup l.Ds), none, none, none, none, none] m = newL m ((l.its.map fun i => (i, 1)).map en) := by
    rw [← en_its 1 l]
    refine lc_gen (d := .tup l.Ds) ?_ rfl (fun x hx => ?_) ?_
    · simp only [eq_self, decide_true, decide_false, runFn, evSs, evS, evE, evL, evO, evB, evAndB, evOrB, evT, evAnd, evOr, evTs, sSeq, sRet, sPass, sAsg, sExpr, sIf, sRaise, sSetIx, sAug, xCall, xOfT, xAnd, xOr, xBol, xTru, xNot, xPr, xMe, xCons, xNil, xVar, xChain, xCB, xC, xIte, xTup, xLst, xDic, xSl, xAt, xNoP, okTup, okLst, getS, setS, startS, Rs.bind, Rs.then, Rt.and, boolR, truthR, truthD, okBl, asgT, asgTs, gl_ct, call_ct, fu_ct, end_next, end_exc, end_bl, end_int, end_str, end_non, end_tup, clean_bl, clean_int, clean_str, clean_non, clean_tup, nl_non, nl_bl, nl_int, nl_str, nl_tup, nl_loc, nlL_nil, nlL_cons, Bool.and_true, Bool.true_and, Bool.and_false, Bool.false_and, Bool.or_true, Bool.or_false, Bool.true_or, Bool.false_or, Bool.not_true, Bool.not_false, List.length_cons, List.length_nil, List.map_cons, List.map_nil, List.cons_append, List.nil_append, List.getElem?_cons_zero, List.getElem?_cons_succ, List.set_cons_zero, List.set_cons_succ, Nat.reduceAdd, Int.reduceSub, Int.reduceNeg, Nat.reduceSub, Nat.reduceBEq, List.replicate_succ, List.replicate_zero, if_true, if_false, reduceIte, beq_self_eq_true, cln_self, q_le, q_lt, q_gt, q_ge, q_add, q_sub, q_neg, q_abs, q_int, q_bool, q_eqI, q_neI, q_ix0, q_ix1, q_ix2, q_lenT, q_isInt, q_isBool, q_isTuple, q_isStr, p_is, tyD, tInt, tBool, tTuple, tStr, ok_zs_get, ok_zs_remove, ok_zs_put, ok_zs_add, ok_zs_sum, ok_zs_not_records, ok_zs_not_an_operation, ok_zs_part, ok_zs_merge, ok_zs_not_a_nest, ok_zs_abort, ok_zs_records, ok_zs_operation, ok_zs_nest, ok_z14, ok_zs_stop, ok_zs_Part, gl_KEYS, gl_HIGHEST, gl_ROUND, gl_ITEMS, gl_DEEP, gl_ENDS]
    · simp (decide := true) only [x15_0, ite_self, eq_self, decide_true, decide_false, runFn, evSs, evS, evE, evL, evO, evB, evAndB, evOrB, evT, evAnd, evOr, evTs, sSeq, sRet, sPass, sAsg, sExpr, sIf, sRaise, sSetIx, sAug, xCall, xOfT, xAnd, xOr, xBol, xTru, xNot, xPr, xMe, xCons, xNil, xVar, xChain, xCB, xC, xIte, xTup, xLst, xDic, xSl, xAt, xNoP, okTup, okLst, getS, setS, startS, Rs.bind, Rs.then, Rt.and, boolR, truthR, truthD, okBl, asgT, asgTs, gl_ct, call_ct, fu_ct, end_next, end_exc, end_bl, end_int, end_str, end_non, end_tup, clean_bl, clean_int, clean_str, clean_non, clean_tup, nl_non, nl_bl, nl_int, nl_str, nl_tup, nl_loc, nlL_nil, nlL_cons, Bool.and_true, Bool.true_and, Bool.and_false, Bool.false_and, Bool.or_true, Bool.or_false, Bool.true_or, Bool.false_or, Bool.not_true, Bool.not_false, List.length_cons, List.length_nil, List.map_cons, List.map_nil, List.cons_append, List.nil_append, List.getElem?_cons_zero, List.getElem?_cons_succ, List.set_cons_zero, List.set_cons_succ, Nat.reduceAdd, Int.reduceSub, Int.reduceNeg, Nat.reduceSub, Nat.reduceBEq, List.replicate_succ, List.replicate_zero, if_true, if_false, reduceIte, beq_self_eq_true, cln_self, q_le, q_lt, q_gt, q_ge, q_add, q_sub, q_neg, q_abs, q_int, q_bool, q_eqI, q_neI, q_ix0, q_ix1, q_ix2, q_lenT, q_isInt, q_isBool, q_isTuple, q_isStr, p_is, tyD, tInt, tBool, tTuple, tStr, ok_zs_get, ok_zs_remove, ok_zs_put, ok_zs_add, ok_zs_sum, ok_zs_not_records, ok_zs_not_an_operation, ok_zs_part, ok_zs_merge, ok_zs_not_a_nest, ok_zs_abort, ok_zs_records, ok_zs_operation, ok_zs_nest, ok_z14, ok_zs_stop, ok_zs_Part, gl_KEYS, gl_HIGHEST, gl_ROUND, gl_ITEMS, gl_DEEP, gl_ENDS, xLc, itOf, itSeq, itR1, lcRun, lcF, turnE, wipeS, Rs.noexc, clnE, clean_pl, end_pl, q_px0, q_px1, cln_push, cln_push2, cln_push3, sFor, forRun]
      rfl
    · show _ < 100000
      omega
  have nL : newL m ((l.its.map fun i => (i, 1)).map en) = .ok (.loc m.len) (mx m [.lst ((l.its.map fun i => (i, 1)).map en)] []) := by
    rw [newL_ok (by rw [List.length_map, List.length_map]; omega), push_mx]
  have ct : ∀ m', clean m (.tup [.loc m.len, .int 0]) m' = .ok (.tup [.loc m.len, .int 0]) m' := fun m' => by
    unfold clean
    have : D.nl (.tup [.loc m.len, .int 0]) = false := by simp [D.nl, D.nlL]
    rw [this]
  obtain ⟨os, s', e⟩ := nest_loop n m (.tup l.Ds) 100000 (l.its.map fun i => (i, 1)) 0 [] none none none (by rw [wsum_its]; omega) (by rw [wsum_its]; omega) fun p hp => by
    obtain ⟨i, hi, rfl⟩ := List.mem_map.mp hp
    obtain ⟨a, b, _⟩ := its_in l hk i hi
    exact ⟨a, Nat.le_refl _, by simp only; omega⟩
  have e2 : whlI (evT (Cn (n + 5)) (.val (.pr .ne [.var 1, .lst []]))) (evSs (Cn (n + 5)) b15_4) 100000 [some (.tup l.Ds), some (.loc m.len), some (.int 0), none, none, none] (mx m [.lst ((l.its.map fun i => (i, 1)).map en)] []) = .next s' (mx m os []) := e
  have ef : (Cn (n + 5)).fu = 100000 := rfl
  rw [call_s (fd := f15) rfl]
  have hb : f15.body = [.ife (.not (.val (.call 1 [.var 0, .int 0, .glo 3]))) [.ret (.bl false)] [], .asg (.tp [.nm 1, .nm 2]) (.tup [c15_1, .int 0])] ++ [.whl (.val (.pr .ne [.var 1, .lst []])) b15_4, .ret (.bl true)] := rfl
  have a12 : evSs (Cn (n + 5)) [.ife (.not (.val (.call 1 [.var 0, .int 0, .glo 3]))) [.ret (.bl false)] [], .asg (.tp [.nm 1, .nm 2]) (.tup [c15_1, .int 0])] [some (.tup l.Ds), none, none, none, none, none] m =
      .next [some (.tup l.Ds), some (.loc m.len), some (.int 0), none, none, none] (mx m [.lst ((l.its.map fun i => (i, 1)).map en)] []) := by
    simp (decide := true) only [is_tuple_t, h1, h2, cc, nL, ct, cln_self, eq_self, decide_true, decide_false, runFn, evSs, evS, evE, evL, evO, evB, evAndB, evOrB, evT, evAnd, evOr, evTs, sSeq, sRet, sPass, sAsg, sExpr, sIf, sRaise, sSetIx, sAug, xCall, xOfT, xAnd, xOr, xBol, xTru, xNot, xPr, xMe, xCons, xNil, xVar, xChain, xCB, xC, xIte, xTup, xLst, xDic, xSl, xAt, xNoP, okTup, okLst, getS, setS, startS, Rs.bind, Rs.then, Rt.and, boolR, truthR, truthD, okBl, asgT, asgTs, gl_ct, call_ct, fu_ct, end_next, end_exc, end_bl, end_int, end_str, end_non, end_tup, clean_bl, clean_int, clean_str, clean_non, clean_tup, nl_non, nl_bl, nl_int, nl_str, nl_tup, nl_loc, nlL_nil, nlL_cons, Bool.and_true, Bool.true_and, Bool.and_false, Bool.false_and, Bool.or_true, Bool.or_false, Bool.true_or, Bool.false_or, Bool.not_true, Bool.not_false, List.length_cons, List.length_nil, List.map_cons, List.map_nil, List.cons_append, List.nil_append, List.getElem?_cons_zero, List.getElem?_cons_succ, List.set_cons_zero, List.set_cons_succ, Nat.reduceAdd, Int.reduceSub, Int.reduceNeg, Nat.reduceSub, Nat.reduceBEq, List.replicate_succ, List.replicate_zero, if_true, if_false, reduceIte, beq_self_eq_true, cln_self, q_le, q_lt, q_gt, q_ge, q_add, q_sub, q_neg, q_abs, q_int, q_bool, q_eqI, q_neI, q_ix0, q_ix1, q_ix2, q_lenT, q_isInt, q_isBool, q_isTuple, q_isStr, p_is, tyD, tInt, tBool, tTuple, tStr, ok_zs_get, ok_zs_remove, ok_zs_put, ok_zs_add, ok_zs_sum, ok_zs_not_records, ok_zs_not_an_operation, ok_zs_part, ok_zs_merge, ok_zs_not_a_nest, ok_zs_abort, ok_zs_records, ok_zs_operation, ok_zs_nest, ok_z14, ok_zs_stop, ok_zs_Part, gl_KEYS, gl_HIGHEST, gl_ROUND, gl_ITEMS, gl_DEEP, gl_ENDS]
  unfold runFn
  have hlen : (([.tup l.Ds] : List D).length == f15.np) = true := rfl
  rw [hlen, if_pos rfl, hb]
  show endR m (evSs (Cn (n + 5)) _ [some (.tup l.Ds), none, none, none, none, none] m) = _
  rw [evSs_app, a12]
  simp only [Rt.and, evSs, sSeq, evS, ef, e2, sPass, evS, sRet, evE, xC, Rs.then, end_bl, cln_mx0]
theorem counted (n : Nat) : ∀ (k : Nat) (l : Ns) (m : Mem), l.dep ≤ k → l.cnt ≤ 100 → (callL tb (n + 1 + k)).1 31 [.tup l.Ds] m = .ok (.int l.cnt) m
  | k, l, m, hd, hc => by
    have hl := Ds_len l
    have cl := cs_len l
    have cc : evE (Cn (n + k)) c31_1 [some (.tup l.Ds), none] m = newL m l.cs := by
      refine lc_vals (d := .tup l.Ds) (xs := l.Ds) ?_ rfl cl (fun p hp => ?_) ?_
      · simp only [eq_self, decide_true, decide_false, runFn, evSs, evS, evE, evL, evO, evB, evAndB, evOrB, evT, evAnd, evOr, evTs, sSeq, sRet, sPass, sAsg, sExpr, sIf, sRaise, sSetIx, sAug, xCall, xOfT, xAnd, xOr, xBol, xTru, xNot, xPr, xMe, xCons, xNil, xVar, xChain, xCB, xC, xIte, xTup, xLst, xDic, xSl, xAt, xNoP, okTup, okLst, getS, setS, startS, Rs.bind, Rs.then, Rt.and, boolR, truthR, truthD, okBl, asgT, asgTs, gl_ct, call_ct, fu_ct, end_next, end_exc, end_bl, end_int, end_str, end_non, end_tup, clean_bl, clean_int, clean_str, clean_non, clean_tup, nl_non, nl_bl, nl_int, nl_str, nl_tup, nl_loc, nlL_nil, nlL_cons, Bool.and_true, Bool.true_and, Bool.and_false, Bool.false_and, Bool.or_true, Bool.or_false, Bool.true_or, Bool.false_or, Bool.not_true, Bool.not_false, List.length_cons, List.length_nil, List.map_cons, List.map_nil, List.cons_append, List.nil_append, List.getElem?_cons_zero, List.getElem?_cons_succ, List.set_cons_zero, List.set_cons_succ, Nat.reduceAdd, Int.reduceSub, Int.reduceNeg, Nat.reduceSub, Nat.reduceBEq, List.replicate_succ, List.replicate_zero, if_true, if_false, reduceIte, beq_self_eq_true, cln_self, q_le, q_lt, q_gt, q_ge, q_add, q_sub, q_neg, q_abs, q_int, q_bool, q_eqI, q_neI, q_ix0, q_ix1, q_ix2, q_lenT, q_isInt, q_isBool, q_isTuple, q_isStr, p_is, tyD, tInt, tBool, tTuple, tStr, ok_zs_get, ok_zs_remove, ok_zs_put, ok_zs_add, ok_zs_sum, ok_zs_not_records, ok_zs_not_an_operation, ok_zs_part, ok_zs_merge, ok_zs_not_a_nest, ok_zs_abort, ok_zs_records, ok_zs_operation, ok_zs_nest, ok_z14, ok_zs_stop, ok_zs_Part, gl_KEYS, gl_HIGHEST, gl_ROUND, gl_ITEMS, gl_DEEP, gl_ENDS]
      · rcases zip_cs l p hp with ⟨o, rfl⟩ | ⟨q, b, rfl, hq, hqc⟩
        · cases o <;> simp (decide := true) only [x31_0, Op.D, q_eqS, ite_self, eq_self, decide_true, decide_false, runFn, evSs, evS, evE, evL, evO, evB, evAndB, evOrB, evT, evAnd, evOr, evTs, sSeq, sRet, sPass, sAsg, sExpr, sIf, sRaise, sSetIx, sAug, xCall, xOfT, xAnd, xOr, xBol, xTru, xNot, xPr, xMe, xCons, xNil, xVar, xChain, xCB, xC, xIte, xTup, xLst, xDic, xSl, xAt, xNoP, okTup, okLst, getS, setS, startS, Rs.bind, Rs.then, Rt.and, boolR, truthR, truthD, okBl, asgT, asgTs, gl_ct, call_ct, fu_ct, end_next, end_exc, end_bl, end_int, end_str, end_non, end_tup, clean_bl, clean_int, clean_str, clean_non, clean_tup, nl_non, nl_bl, nl_int, nl_str, nl_tup, nl_loc, nlL_nil, nlL_cons, Bool.and_true, Bool.true_and, Bool.and_false, Bool.false_and, Bool.or_true, Bool.or_false, Bool.true_or, Bool.false_or, Bool.not_true, Bool.not_false, List.length_cons, List.length_nil, List.map_cons, List.map_nil, List.cons_append, List.nil_append, List.getElem?_cons_zero, List.getElem?_cons_succ, List.set_cons_zero, List.set_cons_succ, Nat.reduceAdd, Int.reduceSub, Int.reduceNeg, Nat.reduceSub, Nat.reduceBEq, List.replicate_succ, List.replicate_zero, if_true, if_false, reduceIte, beq_self_eq_true, cln_self, q_le, q_lt, q_gt, q_ge, q_add, q_sub, q_neg, q_abs, q_int, q_bool, q_eqI, q_neI, q_ix0, q_ix1, q_ix2, q_lenT, q_isInt, q_isBool, q_isTuple, q_isStr, p_is, tyD, tInt, tBool, tTuple, tStr, ok_zs_get, ok_zs_remove, ok_zs_put, ok_zs_add, ok_zs_sum, ok_zs_not_records, ok_zs_not_an_operation, ok_zs_part, ok_zs_merge, ok_zs_not_a_nest, ok_zs_abort, ok_zs_records, ok_zs_operation, ok_zs_nest, ok_z14, ok_zs_stop, ok_zs_Part, gl_KEYS, gl_HIGHEST, gl_ROUND, gl_ITEMS, gl_DEEP, gl_ENDS, xLc, itOf, itSeq, itR1, lcRun, lcF, turnE, wipeS, Rs.noexc, clnE, clean_pl, end_pl, q_px0, q_px1, cln_push, cln_push2, cln_push3, sFor, forRun] <;> rfl
        · obtain ⟨k, rfl⟩ : ∃ j, k = j + 1 := ⟨k - 1, by omega⟩
          have ih := fun m => counted n k q m (by omega) (by omega)
          have e1 : ((1 + q.cnt : Nat) : Int) = 1 + (q.cnt : Int) := by omega
          have ec : n + (k + 1) = n + 1 + k := by omega
          rw [ec]
          simp (decide := true) only [x31_0, q_eqS, ih, e1, ite_self, eq_self, decide_true, decide_false, runFn, evSs, evS, evE, evL, evO, evB, evAndB, evOrB, evT, evAnd, evOr, evTs, sSeq, sRet, sPass, sAsg, sExpr, sIf, sRaise, sSetIx, sAug, xCall, xOfT, xAnd, xOr, xBol, xTru, xNot, xPr, xMe, xCons, xNil, xVar, xChain, xCB, xC, xIte, xTup, xLst, xDic, xSl, xAt, xNoP, okTup, okLst, getS, setS, startS, Rs.bind, Rs.then, Rt.and, boolR, truthR, truthD, okBl, asgT, asgTs, gl_ct, call_ct, fu_ct, end_next, end_exc, end_bl, end_int, end_str, end_non, end_tup, clean_bl, clean_int, clean_str, clean_non, clean_tup, nl_non, nl_bl, nl_int, nl_str, nl_tup, nl_loc, nlL_nil, nlL_cons, Bool.and_true, Bool.true_and, Bool.and_false, Bool.false_and, Bool.or_true, Bool.or_false, Bool.true_or, Bool.false_or, Bool.not_true, Bool.not_false, List.length_cons, List.length_nil, List.map_cons, List.map_nil, List.cons_append, List.nil_append, List.getElem?_cons_zero, List.getElem?_cons_succ, List.set_cons_zero, List.set_cons_succ, Nat.reduceAdd, Int.reduceSub, Int.reduceNeg, Nat.reduceSub, Nat.reduceBEq, List.replicate_succ, List.replicate_zero, if_true, if_false, reduceIte, beq_self_eq_true, cln_self, q_le, q_lt, q_gt, q_ge, q_add, q_sub, q_neg, q_abs, q_int, q_bool, q_eqI, q_neI, q_ix0, q_ix1, q_ix2, q_lenT, q_isInt, q_isBool, q_isTuple, q_isStr, p_is, tyD, tInt, tBool, tTuple, tStr, ok_zs_get, ok_zs_remove, ok_zs_put, ok_zs_add, ok_zs_sum, ok_zs_not_records, ok_zs_not_an_operation, ok_zs_part, ok_zs_merge, ok_zs_not_a_nest, ok_zs_abort, ok_zs_records, ok_zs_operation, ok_zs_nest, ok_z14, ok_zs_stop, ok_zs_Part, gl_KEYS, gl_HIGHEST, gl_ROUND, gl_ITEMS, gl_DEEP, gl_ENDS, xLc, itOf, itSeq, itR1, lcRun, lcF, turnE, wipeS, Rs.noexc, clnE, clean_pl, end_pl, q_px0, q_px1, cln_push, cln_push2, cln_push3, sFor, forRun]
      · show _ < 100000
        omega
    obtain ⟨ns, c1, c2⟩ := cs_sum l
    have nL : newL m l.cs = .ok (.loc m.len) (m.push (.lst (ns.map D.int))) := by
      rw [c1, newL_ok (by rw [← c1, cl]; omega)]
    have sm := q_sumN m ns
    rw [c2] at sm
    have ec : n + 1 + k = n + k + 1 := by omega
    rw [ec, call_s (fd := f31) rfl]
    simp (decide := true) only [f31, cc, nL, sm, cln_push, eq_self, decide_true, decide_false, runFn, evSs, evS, evE, evL, evO, evB, evAndB, evOrB, evT, evAnd, evOr, evTs, sSeq, sRet, sPass, sAsg, sExpr, sIf, sRaise, sSetIx, sAug, xCall, xOfT, xAnd, xOr, xBol, xTru, xNot, xPr, xMe, xCons, xNil, xVar, xChain, xCB, xC, xIte, xTup, xLst, xDic, xSl, xAt, xNoP, okTup, okLst, getS, setS, startS, Rs.bind, Rs.then, Rt.and, boolR, truthR, truthD, okBl, asgT, asgTs, gl_ct, call_ct, fu_ct, end_next, end_exc, end_bl, end_int, end_str, end_non, end_tup, clean_bl, clean_int, clean_str, clean_non, clean_tup, nl_non, nl_bl, nl_int, nl_str, nl_tup, nl_loc, nlL_nil, nlL_cons, Bool.and_true, Bool.true_and, Bool.and_false, Bool.false_and, Bool.or_true, Bool.or_false, Bool.true_or, Bool.false_or, Bool.not_true, Bool.not_false, List.length_cons, List.length_nil, List.map_cons, List.map_nil, List.cons_append, List.nil_append, List.getElem?_cons_zero, List.getElem?_cons_succ, List.set_cons_zero, List.set_cons_succ, Nat.reduceAdd, Int.reduceSub, Int.reduceNeg, Nat.reduceSub, Nat.reduceBEq, List.replicate_succ, List.replicate_zero, if_true, if_false, reduceIte, beq_self_eq_true, cln_self, q_le, q_lt, q_gt, q_ge, q_add, q_sub, q_neg, q_abs, q_int, q_bool, q_eqI, q_neI, q_ix0, q_ix1, q_ix2, q_lenT, q_isInt, q_isBool, q_isTuple, q_isStr, p_is, tyD, tInt, tBool, tTuple, tStr, ok_zs_get, ok_zs_remove, ok_zs_put, ok_zs_add, ok_zs_sum, ok_zs_not_records, ok_zs_not_an_operation, ok_zs_part, ok_zs_merge, ok_zs_not_a_nest, ok_zs_abort, ok_zs_records, ok_zs_operation, ok_zs_nest, ok_z14, ok_zs_stop, ok_zs_Part, gl_KEYS, gl_HIGHEST, gl_ROUND, gl_ITEMS, gl_DEEP, gl_ENDS]
theorem nest_pick (c : Cup) : ∃ b : Bool, c.pick [.str zs_merge, .str zs_merge, .str zs_abort] = .str (endS b) := by
  have h := c.pick_mem (xs := [.str zs_merge, .str zs_merge, .str zs_abort]) (by decide)
  simp only [List.mem_cons, List.not_mem_nil, or_false] at h
  rcases h with h | h | h
  · exact ⟨true, h⟩
  · exact ⟨true, h⟩
  · exact ⟨false, h⟩
def nestT : CT := .val (.pr .gt [.var 1, .int 0])
theorem nest_while (n deep : Nat) (rs : List Ob) (e : List (Nat × Nat)) (hdp : deep ≤ 4)
    (ih : ∀ d, deep = d + 1 → ∀ (c : Cup) (many : Nat), many ≤ 14 → ∃ (l : Ns) (c' : Cup), l.ok ∧ l.cnt = many ∧ l.dep ≤ d ∧ (callL tb (n + 8 + d)).1 30 [.loc 0, .int many, .int 5, .int d] (cm c rs e) = .ok (.tup l.Ds) (cm c' rs e)) :
    ∀ (fu many : Nat) (f : Ns) (c : Cup) (x5 : Option D), many < fu → f.ok → f.dep ≤ deep → f.cnt + many ≤ 14 → ∃ (l : Ns) (c' : Cup) (y : Option D), l.ok ∧ l.cnt = f.cnt + many ∧ l.dep ≤ deep ∧
      whlI (evT (Cn (n + 7 + deep)) nestT) (evSs (Cn (n + 7 + deep)) b30_0) fu [some (.loc 0), some (.int many), some (.int 5), some (.int deep), some (.tup f.Ds), x5] (cm c rs e) =
        .next [some (.loc 0), some (.int (0 : Nat)), some (.int 5), some (.int deep), some (.tup l.Ds), y] (cm c' rs e)
  | 0, many, f, c, x5, h, _, _, _ => by omega
  | fu + 1, many, f, c, x5, h, hf, hd, hc => by
    have t : evT (Cn (n + 7 + deep)) nestT [some (.loc 0), some (.int many), some (.int 5), some (.int deep), some (.tup f.Ds), x5] (cm c rs e) = .ok (decide ((0 : Int) < many)) (cm c rs e) := by
      simp (decide := true) only [nestT, eq_self, decide_true, decide_false, runFn, evSs, evS, evE, evL, evO, evB, evAndB, evOrB, evT, evAnd, evOr, evTs, sSeq, sRet, sPass, sAsg, sExpr, sIf, sRaise, sSetIx, sAug, xCall, xOfT, xAnd, xOr, xBol, xTru, xNot, xPr, xMe, xCons, xNil, xVar, xChain, xCB, xC, xIte, xTup, xLst, xDic, xSl, xAt, xNoP, okTup, okLst, getS, setS, startS, Rs.bind, Rs.then, Rt.and, boolR, truthR, truthD, okBl, asgT, asgTs, gl_ct, call_ct, fu_ct, end_next, end_exc, end_bl, end_int, end_str, end_non, end_tup, clean_bl, clean_int, clean_str, clean_non, clean_tup, nl_non, nl_bl, nl_int, nl_str, nl_tup, nl_loc, nlL_nil, nlL_cons, Bool.and_true, Bool.true_and, Bool.and_false, Bool.false_and, Bool.or_true, Bool.or_false, Bool.true_or, Bool.false_or, Bool.not_true, Bool.not_false, List.length_cons, List.length_nil, List.map_cons, List.map_nil, List.cons_append, List.nil_append, List.getElem?_cons_zero, List.getElem?_cons_succ, List.set_cons_zero, List.set_cons_succ, Nat.reduceAdd, Int.reduceSub, Int.reduceNeg, Nat.reduceSub, Nat.reduceBEq, List.replicate_succ, List.replicate_zero, if_true, if_false, reduceIte, beq_self_eq_true, cln_self, q_le, q_lt, q_gt, q_ge, q_add, q_sub, q_neg, q_abs, q_int, q_bool, q_eqI, q_neI, q_ix0, q_ix1, q_ix2, q_lenT, q_isInt, q_isBool, q_isTuple, q_isStr, p_is, tyD, tInt, tBool, tTuple, tStr, ok_zs_get, ok_zs_remove, ok_zs_put, ok_zs_add, ok_zs_sum, ok_zs_not_records, ok_zs_not_an_operation, ok_zs_part, ok_zs_merge, ok_zs_not_a_nest, ok_zs_abort, ok_zs_records, ok_zs_operation, ok_zs_nest, ok_z14, ok_zs_stop, ok_zs_Part, gl_KEYS, gl_HIGHEST, gl_ROUND, gl_ITEMS, gl_DEEP, gl_ENDS]
    unfold whlI
    rw [t]
    simp only [Rs.then, cm_cln]
    by_cases hz : many = 0
    · subst hz
      exact ⟨f, c, x5, hf, rfl, hd, rfl⟩
    · have hpos : decide ((0 : Int) < many) = true := decide_eq_true (by omega)
      rw [hpos]
      simp only
      have hl := Ds_len f
      -- the turn
      have turn : ∃ (f2 : Ns) (c2 : Cup) (y : Option D) (m2 : Nat), f2.ok ∧ f2.dep ≤ deep ∧ m2 < many ∧ f2.cnt + m2 = f.cnt + many ∧ f2.cnt ≤ f.cnt + many ∧
          evSs (Cn (n + 7 + deep)) b30_0 [some (.loc 0), some (.int many), some (.int 5), some (.int deep), some (.tup f.Ds), x5] (cm c rs e) = .next [some (.loc 0), some (.int m2), some (.int 5), some (.int deep), some (.tup f2.Ds), y] (cm c2 rs e) := by
        have addT : ∀ (d : D) m, prim .add [.tup f.Ds, .tup [d]] m = .ok (.tup (f.Ds ++ [d])) m := fun d m => by
          show okIf (decide ((f.Ds).length + [d].length ≤ sizeLine)) _ m = _
          have : decide ((f.Ds).length + [d].length ≤ sizeLine) = true := decide_eq_true (Nat.le_trans (show (f.Ds).length + [d].length ≤ 100 by simp; omega) (by decide))
          rw [this]
          rfl
        have opCase : ∀ c1 : Cup, ∃ (o : Op) (c2 : Cup), o.ok ∧ (callL tb (n + 4 + deep + 3)).1 28 [.loc 0, .int 5] (cm c1 rs e) = .ok o.D (cm c2 rs e) := fun c1 => law_op (n + 4 + deep) c1 rs e 5 (by decide)
        have en3 : n + 4 + deep + 3 = n + 7 + deep := by omega
        have ctw : ∀ (xs : List D) (x : Int) (m m' : Mem), D.nlL xs = true → clean m (.tup [.tup xs, .int x]) m' = .ok (.tup [.tup xs, .int x]) (cln m m') := fun xs x m m' hx => clean_tup _ _ _ (by simp only [nlL_cons, nl_tup, hx, nl_int, nlL_nil, Bool.and_true])
        have em1 : ((many - 1 : Nat) : Int) = (many : Int) - 1 := by omega
        have k4 : (0 : Int) < 4 ∧ (4 : Int) < 1073741824 := by decide
        have r4 := roll_eq (n + 6 + deep) c rs e 4 k4
        have en6 : n + 6 + deep + 1 = n + 7 + deep := by omega
        rw [en6] at r4
        have isOp : ∀ c1 : Cup, (∀ (M : Mem) , True) → (evT (Cn (n + 7 + deep)) (.and [.val (.pr .gt [.var 3, .int 0]), .val (.pr .eq [.call 23 [.var 0, .int 4], .int 0])]) [some (.loc 0), some (.int many), some (.int 5), some (.int deep), some (.tup f.Ds), x5] (cm c rs e) = .ok false (cm c1 rs e)) → ∃ (f2 : Ns) (c2 : Cup) (y : Option D) (m2 : Nat), f2.ok ∧ f2.dep ≤ deep ∧ m2 < many ∧ f2.cnt + m2 = f.cnt + many ∧ f2.cnt ≤ f.cnt + many ∧
            evSs (Cn (n + 7 + deep)) b30_0 [some (.loc 0), some (.int many), some (.int 5), some (.int deep), some (.tup f.Ds), x5] (cm c rs e) = .next [some (.loc 0), some (.int m2), some (.int 5), some (.int deep), some (.tup f2.Ds), y] (cm c2 rs e) := fun c1 _ ht => by
          obtain ⟨o, c2, ho, eo⟩ := opCase c1
          rw [en3] at eo
          refine ⟨f.app (.op o .nil), c2, x5, many - 1, app_ok _ _ hf ⟨ho, trivial⟩, by rw [app_dep]; simp only [Ns.dep]; omega, by omega, by rw [app_cnt]; simp only [Ns.cnt]; omega, by rw [app_cnt]; simp only [Ns.cnt]; omega, ?_⟩
          have ed : (f.app (.op o .nil)).Ds = f.Ds ++ [o.D] := by rw [app_Ds]; rfl
          have hnl : D.nlL (f.Ds ++ [o.D]) = true := by rw [← ed]; exact nl_Ds _
          have ctw2 := fun (x : Int) (m m' : Mem) => ctw _ x m m' hnl
          rw [ed, em1]
          show (sSeq (sIf (evT (Cn (n + 7 + deep)) (.and [.val (.pr .gt [.var 3, .int 0]), .val (.pr .eq [.call 23 [.var 0, .int 4], .int 0])])) _ _) sPass) _ _ = _
          simp only [sSeq, sIf, ht, Rs.then, cm_cln]
          simp (decide := true) only [eo, addT, ctw2, cm_cln, eq_self, decide_true, decide_false, runFn, evSs, evS, evE, evL, evO, evB, evAndB, evOrB, evT, evAnd, evOr, evTs, sSeq, sRet, sPass, sAsg, sExpr, sIf, sRaise, sSetIx, sAug, xCall, xOfT, xAnd, xOr, xBol, xTru, xNot, xPr, xMe, xCons, xNil, xVar, xChain, xCB, xC, xIte, xTup, xLst, xDic, xSl, xAt, xNoP, okTup, okLst, getS, setS, startS, Rs.bind, Rs.then, Rt.and, boolR, truthR, truthD, okBl, asgT, asgTs, gl_ct, call_ct, fu_ct, end_next, end_exc, end_bl, end_int, end_str, end_non, end_tup, clean_bl, clean_int, clean_str, clean_non, clean_tup, nl_non, nl_bl, nl_int, nl_str, nl_tup, nl_loc, nlL_nil, nlL_cons, Bool.and_true, Bool.true_and, Bool.and_false, Bool.false_and, Bool.or_true, Bool.or_false, Bool.true_or, Bool.false_or, Bool.not_true, Bool.not_false, List.length_cons, List.length_nil, List.map_cons, List.map_nil, List.cons_append, List.nil_append, List.getElem?_cons_zero, List.getElem?_cons_succ, List.set_cons_zero, List.set_cons_succ, Nat.reduceAdd, Int.reduceSub, Int.reduceNeg, Nat.reduceSub, Nat.reduceBEq, List.replicate_succ, List.replicate_zero, if_true, if_false, reduceIte, beq_self_eq_true, cln_self, q_le, q_lt, q_gt, q_ge, q_add, q_sub, q_neg, q_abs, q_int, q_bool, q_eqI, q_neI, q_ix0, q_ix1, q_ix2, q_lenT, q_isInt, q_isBool, q_isTuple, q_isStr, p_is, tyD, tInt, tBool, tTuple, tStr, ok_zs_get, ok_zs_remove, ok_zs_put, ok_zs_add, ok_zs_sum, ok_zs_not_records, ok_zs_not_an_operation, ok_zs_part, ok_zs_merge, ok_zs_not_a_nest, ok_zs_abort, ok_zs_records, ok_zs_operation, ok_zs_nest, ok_z14, ok_zs_stop, ok_zs_Part, gl_KEYS, gl_HIGHEST, gl_ROUND, gl_ITEMS, gl_DEEP, gl_ENDS]
        by_cases h0 : deep = 0
        · subst h0
          refine isOp c (fun _ => trivial) ?_
          simp (decide := true) only [eq_self, decide_true, decide_false, runFn, evSs, evS, evE, evL, evO, evB, evAndB, evOrB, evT, evAnd, evOr, evTs, sSeq, sRet, sPass, sAsg, sExpr, sIf, sRaise, sSetIx, sAug, xCall, xOfT, xAnd, xOr, xBol, xTru, xNot, xPr, xMe, xCons, xNil, xVar, xChain, xCB, xC, xIte, xTup, xLst, xDic, xSl, xAt, xNoP, okTup, okLst, getS, setS, startS, Rs.bind, Rs.then, Rt.and, boolR, truthR, truthD, okBl, asgT, asgTs, gl_ct, call_ct, fu_ct, end_next, end_exc, end_bl, end_int, end_str, end_non, end_tup, clean_bl, clean_int, clean_str, clean_non, clean_tup, nl_non, nl_bl, nl_int, nl_str, nl_tup, nl_loc, nlL_nil, nlL_cons, Bool.and_true, Bool.true_and, Bool.and_false, Bool.false_and, Bool.or_true, Bool.or_false, Bool.true_or, Bool.false_or, Bool.not_true, Bool.not_false, List.length_cons, List.length_nil, List.map_cons, List.map_nil, List.cons_append, List.nil_append, List.getElem?_cons_zero, List.getElem?_cons_succ, List.set_cons_zero, List.set_cons_succ, Nat.reduceAdd, Int.reduceSub, Int.reduceNeg, Nat.reduceSub, Nat.reduceBEq, List.replicate_succ, List.replicate_zero, if_true, if_false, reduceIte, beq_self_eq_true, cln_self, q_le, q_lt, q_gt, q_ge, q_add, q_sub, q_neg, q_abs, q_int, q_bool, q_eqI, q_neI, q_ix0, q_ix1, q_ix2, q_lenT, q_isInt, q_isBool, q_isTuple, q_isStr, p_is, tyD, tInt, tBool, tTuple, tStr, ok_zs_get, ok_zs_remove, ok_zs_put, ok_zs_add, ok_zs_sum, ok_zs_not_records, ok_zs_not_an_operation, ok_zs_part, ok_zs_merge, ok_zs_not_a_nest, ok_zs_abort, ok_zs_records, ok_zs_operation, ok_zs_nest, ok_z14, ok_zs_stop, ok_zs_Part, gl_KEYS, gl_HIGHEST, gl_ROUND, gl_ITEMS, gl_DEEP, gl_ENDS]
        · obtain ⟨d, rfl⟩ : ∃ d, deep = d + 1 := ⟨deep - 1, by omega⟩
          have hdd : decide ((0 : Int) < ((d + 1 : Nat) : Int)) = true := decide_eq_true (by omega)
          by_cases hr : c.r 4 = 0
          · have km : (0 : Int) < (many : Int) ∧ (many : Int) < 1073741824 := by omega
            have rm := roll_eq (n + 6 + (d + 1)) (c.nx 4) rs e many km
            have en6b : n + 6 + (d + 1) + 1 = n + 7 + (d + 1) := by omega
            rw [en6b] at rm
            have g1 := (c.nx 4).r_ge km.1
            have g2 := (c.nx 4).r_lt km.1
            generalize hq : (c.nx 4).r (many : Int) = q at rm g1 g2
            obtain ⟨q, rfl⟩ : ∃ j : Nat, q = (j : Int) := ⟨q.toNat, by omega⟩
            obtain ⟨l2, c3, lo, lc, ld, le⟩ := ih d rfl ((c.nx 4).nx many) q (by omega)
            have en7 : n + 8 + d = n + 7 + (d + 1) := by omega
            rw [en7] at le
            obtain ⟨b, hb⟩ := nest_pick c3
            have se := some_eq (n + 5 + (d + 1)) c3 rs e [.str zs_merge, .str zs_merge, .str zs_abort] (by decide) (by decide)
            have en5 : n + 5 + (d + 1) + 2 = n + 7 + (d + 1) := by omega
            rw [en5, hb] at se
            have co := fun m => counted (n + 7) d l2 m ld (by omega)
            have eco : n + 7 + 1 + d = n + 7 + (d + 1) := by omega
            rw [eco] at co
            have cd : ((d + 1 : Nat) : Int) - 1 = (d : Int) := by omega
            refine ⟨f.app (.part l2 b .nil), c3.nx (([D.str zs_merge, D.str zs_merge, D.str zs_abort] : List D).length : Int), some (.tup l2.Ds), many - 1 - q, app_ok _ _ hf ⟨lo, trivial⟩, by rw [app_dep]; simp only [Ns.dep]; omega, by omega, by rw [app_cnt]; simp only [Ns.cnt]; omega, by rw [app_cnt]; simp only [Ns.cnt]; omega, ?_⟩
            have ed : (f.app (.part l2 b .nil)).Ds = f.Ds ++ [.tup [.str zs_part, .tup l2.Ds, .str (endS b)]] := by rw [app_Ds]; rfl
            have hnl : D.nlL (f.Ds ++ [.tup [.str zs_part, .tup l2.Ds, .str (endS b)]]) = true := by rw [← ed]; exact nl_Ds _
            have ctw2 := fun (x : Int) (m m' : Mem) => ctw _ x m m' hnl
            have cl2 := fun (m m' : Mem) => clean_tup m m' l2.Ds (nl_Ds l2)
            have eq2 : ((many - 1 - q : Nat) : Int) = (many : Int) - 1 - (l2.cnt : Int) := by rw [lc]; omega
            have hr2 : (c.r 4 = 0) = True := by simp [hr]
            rw [ed, eq2]
            simp (decide := true) only [b30_0, hdd, r4, hr, q_eqI, rm, cd, le, cl2, cm_push, cm_len, se, addT, co, ctw2, cm_cln, cm_cln1, eq_self, decide_true, decide_false, runFn, evSs, evS, evE, evL, evO, evB, evAndB, evOrB, evT, evAnd, evOr, evTs, sSeq, sRet, sPass, sAsg, sExpr, sIf, sRaise, sSetIx, sAug, xCall, xOfT, xAnd, xOr, xBol, xTru, xNot, xPr, xMe, xCons, xNil, xVar, xChain, xCB, xC, xIte, xTup, xLst, xDic, xSl, xAt, xNoP, okTup, okLst, getS, setS, startS, Rs.bind, Rs.then, Rt.and, boolR, truthR, truthD, okBl, asgT, asgTs, gl_ct, call_ct, fu_ct, end_next, end_exc, end_bl, end_int, end_str, end_non, end_tup, clean_bl, clean_int, clean_str, clean_non, clean_tup, nl_non, nl_bl, nl_int, nl_str, nl_tup, nl_loc, nlL_nil, nlL_cons, Bool.and_true, Bool.true_and, Bool.and_false, Bool.false_and, Bool.or_true, Bool.or_false, Bool.true_or, Bool.false_or, Bool.not_true, Bool.not_false, List.length_cons, List.length_nil, List.map_cons, List.map_nil, List.cons_append, List.nil_append, List.getElem?_cons_zero, List.getElem?_cons_succ, List.set_cons_zero, List.set_cons_succ, Nat.reduceAdd, Int.reduceSub, Int.reduceNeg, Nat.reduceSub, Nat.reduceBEq, List.replicate_succ, List.replicate_zero, if_true, if_false, reduceIte, beq_self_eq_true, cln_self, q_le, q_lt, q_gt, q_ge, q_add, q_sub, q_neg, q_abs, q_int, q_bool, q_eqI, q_neI, q_ix0, q_ix1, q_ix2, q_lenT, q_isInt, q_isBool, q_isTuple, q_isStr, p_is, tyD, tInt, tBool, tTuple, tStr, ok_zs_get, ok_zs_remove, ok_zs_put, ok_zs_add, ok_zs_sum, ok_zs_not_records, ok_zs_not_an_operation, ok_zs_part, ok_zs_merge, ok_zs_not_a_nest, ok_zs_abort, ok_zs_records, ok_zs_operation, ok_zs_nest, ok_z14, ok_zs_stop, ok_zs_Part, gl_KEYS, gl_HIGHEST, gl_ROUND, gl_ITEMS, gl_DEEP, gl_ENDS]
          · refine isOp (c.nx 4) (fun _ => trivial) ?_
            have hr2 : decide (c.r 4 = 0) = false := decide_eq_false hr
            simp (decide := true) only [hdd, r4, hr, hr2, q_eqI, eq_self, decide_true, decide_false, runFn, evSs, evS, evE, evL, evO, evB, evAndB, evOrB, evT, evAnd, evOr, evTs, sSeq, sRet, sPass, sAsg, sExpr, sIf, sRaise, sSetIx, sAug, xCall, xOfT, xAnd, xOr, xBol, xTru, xNot, xPr, xMe, xCons, xNil, xVar, xChain, xCB, xC, xIte, xTup, xLst, xDic, xSl, xAt, xNoP, okTup, okLst, getS, setS, startS, Rs.bind, Rs.then, Rt.and, boolR, truthR, truthD, okBl, asgT, asgTs, gl_ct, call_ct, fu_ct, end_next, end_exc, end_bl, end_int, end_str, end_non, end_tup, clean_bl, clean_int, clean_str, clean_non, clean_tup, nl_non, nl_bl, nl_int, nl_str, nl_tup, nl_loc, nlL_nil, nlL_cons, Bool.and_true, Bool.true_and, Bool.and_false, Bool.false_and, Bool.or_true, Bool.or_false, Bool.true_or, Bool.false_or, Bool.not_true, Bool.not_false, List.length_cons, List.length_nil, List.map_cons, List.map_nil, List.cons_append, List.nil_append, List.getElem?_cons_zero, List.getElem?_cons_succ, List.set_cons_zero, List.set_cons_succ, Nat.reduceAdd, Int.reduceSub, Int.reduceNeg, Nat.reduceSub, Nat.reduceBEq, List.replicate_succ, List.replicate_zero, if_true, if_false, reduceIte, beq_self_eq_true, cln_self, q_le, q_lt, q_gt, q_ge, q_add, q_sub, q_neg, q_abs, q_int, q_bool, q_eqI, q_neI, q_ix0, q_ix1, q_ix2, q_lenT, q_isInt, q_isBool, q_isTuple, q_isStr, p_is, tyD, tInt, tBool, tTuple, tStr, ok_zs_get, ok_zs_remove, ok_zs_put, ok_zs_add, ok_zs_sum, ok_zs_not_records, ok_zs_not_an_operation, ok_zs_part, ok_zs_merge, ok_zs_not_a_nest, ok_zs_abort, ok_zs_records, ok_zs_operation, ok_zs_nest, ok_z14, ok_zs_stop, ok_zs_Part, gl_KEYS, gl_HIGHEST, gl_ROUND, gl_ITEMS, gl_DEEP, gl_ENDS]
      obtain ⟨f2, c2, y, m2, a1, a2, a3, a4, a5, a6⟩ := turn
      rw [a6]
      simp only
      obtain ⟨l, c', y', b1, b2, b3, b4⟩ := nest_while n deep rs e hdp ih fu m2 f2 c2 y (by omega) a1 a2 (by omega)
      exact ⟨l, c', y', b1, by omega, b3, b4⟩
theorem law_nest_eq (n : Nat) (rs : List Ob) (e : List (Nat × Nat)) : ∀ (deep : Nat), deep ≤ 4 → ∀ (c : Cup) (many : Nat), many ≤ 14 →
    ∃ (l : Ns) (c' : Cup), l.ok ∧ l.cnt = many ∧ l.dep ≤ deep ∧ (callL tb (n + 8 + deep)).1 30 [.loc 0, .int many, .int 5, .int deep] (cm c rs e) = .ok (.tup l.Ds) (cm c' rs e)
  | deep, hd, c, many, hm => by
    obtain ⟨l, c', y, a1, a2, a3, a4⟩ := nest_while n deep rs e hd (fun d hdd c many hm => by
      subst hdd
      exact law_nest_eq n rs e d (by omega) c many hm) 100000 many .nil c none (by omega) trivial (Nat.zero_le _) (by simp only [Ns.cnt]; omega)
    refine ⟨l, c', a1, by simpa only [Ns.cnt, Nat.zero_add] using a2, a3, ?_⟩
    have en : n + 8 + deep = n + 7 + deep + 1 := by omega
    rw [en, call_s (fd := f30) rfl]
    have ef : (Cn (n + 7 + deep)).fu = 100000 := rfl
    have hb : f30.body = [.asg (.nm 4) (.tup []), .whl nestT b30_0, .ret (.var 4)] := rfl
    have hlen : (([.loc 0, .int many, .int 5, .int deep] : List D).length == f30.np) = true := rfl
    unfold runFn
    rw [hlen, if_pos rfl, hb]
    show endR _ (evSs (Cn (n + 7 + deep)) _ [some (.loc 0), some (.int many), some (.int 5), some (.int deep), none, none] _) = _
    have a0 : evS (Cn (n + 7 + deep)) (.asg (.nm 4) (.tup [])) [some (.loc 0), some (.int many), some (.int 5), some (.int deep), none, none] (cm c rs e) = .next [some (.loc 0), some (.int many), some (.int 5), some (.int deep), some (.tup []), none] (cm c rs e) := by
      have ct := fun (m m' : Mem) => clean_tup m m' [] rfl
      simp (decide := true) only [ct, cm_cln, eq_self, decide_true, decide_false, runFn, evSs, evS, evE, evL, evO, evB, evAndB, evOrB, evT, evAnd, evOr, evTs, sSeq, sRet, sPass, sAsg, sExpr, sIf, sRaise, sSetIx, sAug, xCall, xOfT, xAnd, xOr, xBol, xTru, xNot, xPr, xMe, xCons, xNil, xVar, xChain, xCB, xC, xIte, xTup, xLst, xDic, xSl, xAt, xNoP, okTup, okLst, getS, setS, startS, Rs.bind, Rs.then, Rt.and, boolR, truthR, truthD, okBl, asgT, asgTs, gl_ct, call_ct, fu_ct, end_next, end_exc, end_bl, end_int, end_str, end_non, end_tup, clean_bl, clean_int, clean_str, clean_non, clean_tup, nl_non, nl_bl, nl_int, nl_str, nl_tup, nl_loc, nlL_nil, nlL_cons, Bool.and_true, Bool.true_and, Bool.and_false, Bool.false_and, Bool.or_true, Bool.or_false, Bool.true_or, Bool.false_or, Bool.not_true, Bool.not_false, List.length_cons, List.length_nil, List.map_cons, List.map_nil, List.cons_append, List.nil_append, List.getElem?_cons_zero, List.getElem?_cons_succ, List.set_cons_zero, List.set_cons_succ, Nat.reduceAdd, Int.reduceSub, Int.reduceNeg, Nat.reduceSub, Nat.reduceBEq, List.replicate_succ, List.replicate_zero, if_true, if_false, reduceIte, beq_self_eq_true, cln_self, q_le, q_lt, q_gt, q_ge, q_add, q_sub, q_neg, q_abs, q_int, q_bool, q_eqI, q_neI, q_ix0, q_ix1, q_ix2, q_lenT, q_isInt, q_isBool, q_isTuple, q_isStr, p_is, tyD, tInt, tBool, tTuple, tStr, ok_zs_get, ok_zs_remove, ok_zs_put, ok_zs_add, ok_zs_sum, ok_zs_not_records, ok_zs_not_an_operation, ok_zs_part, ok_zs_merge, ok_zs_not_a_nest, ok_zs_abort, ok_zs_records, ok_zs_operation, ok_zs_nest, ok_z14, ok_zs_stop, ok_zs_Part, gl_KEYS, gl_HIGHEST, gl_ROUND, gl_ITEMS, gl_DEEP, gl_ENDS]
    have a5 : evS (Cn (n + 7 + deep)) (.whl nestT b30_0) [some (.loc 0), some (.int many), some (.int 5), some (.int deep), some (.tup []), none] (cm c rs e) = .next [some (.loc 0), some (.int (0 : Nat)), some (.int 5), some (.int deep), some (.tup l.Ds), y] (cm c' rs e) := a4
    rw [evSs_cons, a0, and_next, evSs_cons, a5, and_next]
    simp (decide := true) only [nl_Ds, end_tup, cm_cln, eq_self, decide_true, decide_false, runFn, evSs, evS, evE, evL, evO, evB, evAndB, evOrB, evT, evAnd, evOr, evTs, sSeq, sRet, sPass, sAsg, sExpr, sIf, sRaise, sSetIx, sAug, xCall, xOfT, xAnd, xOr, xBol, xTru, xNot, xPr, xMe, xCons, xNil, xVar, xChain, xCB, xC, xIte, xTup, xLst, xDic, xSl, xAt, xNoP, okTup, okLst, getS, setS, startS, Rs.bind, Rs.then, Rt.and, boolR, truthR, truthD, okBl, asgT, asgTs, gl_ct, call_ct, fu_ct, end_next, end_exc, end_bl, end_int, end_str, end_non, end_tup, clean_bl, clean_int, clean_str, clean_non, clean_tup, nl_non, nl_bl, nl_int, nl_str, nl_tup, nl_loc, nlL_nil, nlL_cons, Bool.and_true, Bool.true_and, Bool.and_false, Bool.false_and, Bool.or_true, Bool.or_false, Bool.true_or, Bool.false_or, Bool.not_true, Bool.not_false, List.length_cons, List.length_nil, List.map_cons, List.map_nil, List.cons_append, List.nil_append, List.getElem?_cons_zero, List.getElem?_cons_succ, List.set_cons_zero, List.set_cons_succ, Nat.reduceAdd, Int.reduceSub, Int.reduceNeg, Nat.reduceSub, Nat.reduceBEq, List.replicate_succ, List.replicate_zero, if_true, if_false, reduceIte, beq_self_eq_true, cln_self, q_le, q_lt, q_gt, q_ge, q_add, q_sub, q_neg, q_abs, q_int, q_bool, q_eqI, q_neI, q_ix0, q_ix1, q_ix2, q_lenT, q_isInt, q_isBool, q_isTuple, q_isStr, p_is, tyD, tInt, tBool, tTuple, tStr, ok_zs_get, ok_zs_remove, ok_zs_put, ok_zs_add, ok_zs_sum, ok_zs_not_records, ok_zs_not_an_operation, ok_zs_part, ok_zs_merge, ok_zs_not_a_nest, ok_zs_abort, ok_zs_records, ok_zs_operation, ok_zs_nest, ok_z14, ok_zs_stop, ok_zs_Part, gl_KEYS, gl_HIGHEST, gl_ROUND, gl_ITEMS, gl_DEEP, gl_ENDS]
end T02

set_option Elab.async false
set_option linter.all false
set_option maxRecDepth 100000
set_option maxHeartbeats 1000000
namespace T02
open NV PySem
/-! what nests come to -/
theorem op_part (o : Op) (m : Mem) : ∃ (z : Str) (r : List D), o.D = .tup (.str z :: r) ∧ decide (z = zs_part) = false := by
  cases o <;> exact ⟨_, _, rfl, by decide⟩
theorem idx0_op (o : Op) (m : Mem) : ∃ z : Str, prim .idx [o.D, .int 0] m = .ok (.str z) m ∧ decide (z = zs_part) = false := by
  obtain ⟨z, r, e, h⟩ := op_part o m
  exact ⟨z, by rw [e]; exact q_ix0 _ _ _, h⟩
theorem res_loop (n k : Nat) (m : Mem) (V : Option D) (ih : ∀ (q : Ns) (L : List (Int × Int)) (m : Mem), q.dep + 1 ≤ k → Can L → q.ok → q.cnt ≤ 100 → (callL tb (n + 3 + k)).1 16 [recD L, .tup q.Ds] m = .ok (.tup [recD (q.res L).1, .tup (q.res L).2]) m) :
    ∀ (l : Ns) (L : List (Int × Int)) (acc : List D) (x3 x4 x5 x6 : Option D), Can L → l.ok → l.dep ≤ k → l.cnt + acc.length ≤ 100 → ∃ y3 y4 y5 y6 : Option D,
      forF (evSs (Cn (n + 3 + k)) b16_0) (.nm 3) l.Ds [some (recD L), V, some (.loc m.len), x3, x4, x5, x6] (mx m [.lst acc] []) = .next [some (recD (l.res L).1), V, some (.loc m.len), y3, y4, y5, y6] (mx m [.lst (acc ++ (l.res L).2)] [])
  | .nil, L, acc, x3, x4, x5, x6, _, _, _, _ => ⟨x3, x4, x5, x6, by simp only [Ns.Ds, Ns.res, List.append_nil]; rfl⟩
  | .op o r, L, acc, x3, x4, x5, x6, hL, ho, hd, hc => by
    simp only [Ns.cnt] at hc
    have f1 := fun m => is_part_op (n + 2 + k) o m
    have en : n + 2 + k + 1 = n + 3 + k := by omega
    rw [en] at f1
    have d1 := fun m => done_on_eq (n + 1 + k) L o m (by have := can_len64 hL; omega)
    have en2 : n + 1 + k + 2 = n + 3 + k := by omega
    rw [en2] at d1
    have kd : kindOk .append (.loc m.len) (mx m [.lst acc] []) = true := isLst_of (mx_get0 m _ _)
    have qa := q_app (m := m) (os := []) (u := []) (xs := acc) (y := (stp L o).2) (by omega) (nl_stp L o)
    have ct := fun (m m' : Mem) => clean_tup m m' [recD (stp L o).1, (stp L o).2] (by simp only [nlL_cons, nl_recD, nl_stp, nlL_nil, Bool.and_true])
    have cl : ∀ a b, cln (mx m [a] []) (mx m [b] []) = mx m [b] [] := fun a b => by rw [cln_mx]; rfl
    have step : evSs (Cn (n + 3 + k)) b16_0 [some (recD L), V, some (.loc m.len), some o.D, x4, x5, x6] (mx m [.lst acc] []) = .next [some (recD (stp L o).1), V, some (.loc m.len), some o.D, x4, x5, some (stp L o).2] (mx m [.lst (acc ++ [(stp L o).2])] []) := by
      simp (decide := true) only [b16_0, f1, d1, ct, kd, qa, cl, eq_self, decide_true, decide_false, runFn, evSs, evS, evE, evL, evO, evB, evAndB, evOrB, evT, evAnd, evOr, evTs, sSeq, sRet, sPass, sAsg, sExpr, sIf, sRaise, sSetIx, sAug, xCall, xOfT, xAnd, xOr, xBol, xTru, xNot, xPr, xMe, xCons, xNil, xVar, xChain, xCB, xC, xIte, xTup, xLst, xDic, xSl, xAt, xNoP, okTup, okLst, getS, setS, startS, Rs.bind, Rs.then, Rt.and, boolR, truthR, truthD, okBl, asgT, asgTs, gl_ct, call_ct, fu_ct, end_next, end_exc, end_bl, end_int, end_str, end_non, end_tup, clean_bl, clean_int, clean_str, clean_non, clean_tup, nl_non, nl_bl, nl_int, nl_str, nl_tup, nl_loc, nlL_nil, nlL_cons, Bool.and_true, Bool.true_and, Bool.and_false, Bool.false_and, Bool.or_true, Bool.or_false, Bool.true_or, Bool.false_or, Bool.not_true, Bool.not_false, List.length_cons, List.length_nil, List.map_cons, List.map_nil, List.cons_append, List.nil_append, List.getElem?_cons_zero, List.getElem?_cons_succ, List.set_cons_zero, List.set_cons_succ, Nat.reduceAdd, Int.reduceSub, Int.reduceNeg, Nat.reduceSub, Nat.reduceBEq, List.replicate_succ, List.replicate_zero, if_true, if_false, reduceIte, beq_self_eq_true, cln_self, q_le, q_lt, q_gt, q_ge, q_add, q_sub, q_neg, q_abs, q_int, q_bool, q_eqI, q_neI, q_ix0, q_ix1, q_ix2, q_lenT, q_isInt, q_isBool, q_isTuple, q_isStr, p_is, tyD, tInt, tBool, tTuple, tStr, ok_zs_get, ok_zs_remove, ok_zs_put, ok_zs_add, ok_zs_sum, ok_zs_not_records, ok_zs_not_an_operation, ok_zs_part, ok_zs_merge, ok_zs_not_a_nest, ok_zs_abort, ok_zs_records, ok_zs_operation, ok_zs_nest, ok_z14, ok_zs_stop, ok_zs_Part, gl_KEYS, gl_HIGHEST, gl_ROUND, gl_ITEMS, gl_DEEP, gl_ENDS]
    obtain ⟨y3, y4, y5, y6, e⟩ := res_loop n k m V ih r (stp L o).1 (acc ++ [(stp L o).2]) (some o.D) x4 x5 (some (stp L o).2) (stp_can hL ho.1) ho.2 hd (by simp; omega)
    refine ⟨y3, y4, y5, y6, ?_⟩
    simp only [Ns.Ds, forF, asgT, setS, List.set_cons_succ, List.set_cons_zero, step, e, Ns.res, List.append_assoc, List.cons_append, List.nil_append]
  | .part q b r, L, acc, x3, x4, x5, x6, hL, ho, hd, hc => by
    simp only [Ns.cnt] at hc
    simp only [Ns.dep] at hd
    have f1 := fun x y m => is_part_p (n + 2 + k) x y m
    have en : n + 2 + k + 1 = n + 3 + k := by omega
    rw [en] at f1
    have d1 := fun m => ih q L m (by omega) hL ho.1 (by omega)
    have hnl : D.nlL (q.res L).2 = true := res_nl q L
    have kd : kindOk .append (.loc m.len) (mx m [.lst acc] []) = true := isLst_of (mx_get0 m _ _)
    have qa := q_app (m := m) (os := []) (u := []) (xs := acc) (y := .tup (q.res L).2) (by omega) (by rw [nl_tup]; exact hnl)
    have ct := fun (m m' : Mem) => clean_tup m m' [recD (q.res L).1, .tup (q.res L).2] (by simp only [nlL_cons, nl_recD, nl_tup, hnl, nlL_nil, Bool.and_true])
    have cr := fun (l : List (Int × Int)) (m m' : Mem) => clean_nl (m := m) (m1 := m') (nl_recD l)
    have cl : ∀ a b, cln (mx m [a] []) (mx m [b] []) = mx m [b] [] := fun a b => by rw [cln_mx]; rfl
    have hcan : Can (if b then (q.res L).1 else L) := by
      cases b
      · exact hL
      · exact res_can q L hL ho.1
    have step : evSs (Cn (n + 3 + k)) b16_0 [some (recD L), V, some (.loc m.len), some (.tup [.str zs_part, .tup q.Ds, .str (endS b)]), x4, x5, x6] (mx m [.lst acc] []) =
        .next [some (recD (if b then (q.res L).1 else L)), V, some (.loc m.len), some (.tup [.str zs_part, .tup q.Ds, .str (endS b)]), some (recD (q.res L).1), some (.tup (q.res L).2), x6] (mx m [.lst (acc ++ [.tup (q.res L).2])] []) := by
      cases b <;> simp (decide := true) only [b16_0, endS, f1, d1, ct, cr, kd, qa, cl, q_eqS, eq_self, decide_true, decide_false, runFn, evSs, evS, evE, evL, evO, evB, evAndB, evOrB, evT, evAnd, evOr, evTs, sSeq, sRet, sPass, sAsg, sExpr, sIf, sRaise, sSetIx, sAug, xCall, xOfT, xAnd, xOr, xBol, xTru, xNot, xPr, xMe, xCons, xNil, xVar, xChain, xCB, xC, xIte, xTup, xLst, xDic, xSl, xAt, xNoP, okTup, okLst, getS, setS, startS, Rs.bind, Rs.then, Rt.and, boolR, truthR, truthD, okBl, asgT, asgTs, gl_ct, call_ct, fu_ct, end_next, end_exc, end_bl, end_int, end_str, end_non, end_tup, clean_bl, clean_int, clean_str, clean_non, clean_tup, nl_non, nl_bl, nl_int, nl_str, nl_tup, nl_loc, nlL_nil, nlL_cons, Bool.and_true, Bool.true_and, Bool.and_false, Bool.false_and, Bool.or_true, Bool.or_false, Bool.true_or, Bool.false_or, Bool.not_true, Bool.not_false, List.length_cons, List.length_nil, List.map_cons, List.map_nil, List.cons_append, List.nil_append, List.getElem?_cons_zero, List.getElem?_cons_succ, List.set_cons_zero, List.set_cons_succ, Nat.reduceAdd, Int.reduceSub, Int.reduceNeg, Nat.reduceSub, Nat.reduceBEq, List.replicate_succ, List.replicate_zero, if_true, if_false, reduceIte, beq_self_eq_true, cln_self, q_le, q_lt, q_gt, q_ge, q_add, q_sub, q_neg, q_abs, q_int, q_bool, q_eqI, q_neI, q_ix0, q_ix1, q_ix2, q_lenT, q_isInt, q_isBool, q_isTuple, q_isStr, p_is, tyD, tInt, tBool, tTuple, tStr, ok_zs_get, ok_zs_remove, ok_zs_put, ok_zs_add, ok_zs_sum, ok_zs_not_records, ok_zs_not_an_operation, ok_zs_part, ok_zs_merge, ok_zs_not_a_nest, ok_zs_abort, ok_zs_records, ok_zs_operation, ok_zs_nest, ok_z14, ok_zs_stop, ok_zs_Part, gl_KEYS, gl_HIGHEST, gl_ROUND, gl_ITEMS, gl_DEEP, gl_ENDS]
    obtain ⟨y3, y4, y5, y6, e⟩ := res_loop n k m V ih r (if b then (q.res L).1 else L) (acc ++ [.tup (q.res L).2]) (some (.tup [.str zs_part, .tup q.Ds, .str (endS b)])) (some (recD (q.res L).1)) (some (.tup (q.res L).2)) x6 hcan ho.2 (by omega) (by simp; omega)
    refine ⟨y3, y4, y5, y6, ?_⟩
    simp only [Ns.Ds, forF, asgT, setS, List.set_cons_succ, List.set_cons_zero, step, e, Ns.res, List.append_assoc, List.cons_append, List.nil_append]
theorem results_eq (n : Nat) : ∀ (k : Nat) (l : Ns) (L : List (Int × Int)) (m : Mem), l.dep ≤ k → Can L → l.ok → l.cnt ≤ 100 → (callL tb (n + 4 + k)).1 16 [recD L, .tup l.Ds] m = .ok (.tup [recD (l.res L).1, .tup (l.res L).2]) m
  | k, l, L, m, hd, hL, ho, hc => by
    obtain ⟨y3, y4, y5, y6, e⟩ := res_loop n k m (some (.tup l.Ds)) (fun q L m hq hL ho hc => by
      obtain ⟨k, rfl⟩ : ∃ j, k = j + 1 := ⟨k - 1, by omega⟩
      have en : n + 3 + (k + 1) = n + 4 + k := by omega
      rw [en]
      exact results_eq n k q L m (by omega) hL ho hc) l L [] none none none none hL ho hd (by simp; omega)
    have en : n + 4 + k = n + 3 + k + 1 := by omega
    rw [en, call_s (fd := f16) rfl]
    have nL : newL m [] = .ok (.loc m.len) (mx m [.lst []] []) := by rw [newL_ok (by decide), push_mx]
    have cp : clean m (.loc m.len) (m.push (.lst [])) = .ok (.loc m.len) (mx m [.lst []] []) := by
      rw [← push_mx]
      exact clean_pl _ _ rfl
    have cp2 : clean m (.loc m.len) (mx m [.lst []] []) = .ok (.loc m.len) (mx m [.lst []] []) := by
      rw [← push_mx]
      exact clean_pl _ _ rfl
    have hi : ∀ m, itOf .seq [.tup l.Ds] m = some (.fixed l.Ds) := fun _ => rfl
    have hr : ∀ b fu s m, forRun fu b (.nm 3) (.fixed l.Ds) s m = forF b (.nm 3) l.Ds s m := fun _ _ _ _ => rfl
    rw [List.nil_append] at e
    have tt := q_tupL (mx_get0 m [.lst (l.res L).2] [])
    have et := fun (m' : Mem) => end_tup m m' [recD (l.res L).1, .tup (l.res L).2] (by simp only [nlL_cons, nl_recD, nl_tup, res_nl, nlL_nil, Bool.and_true])
    simp (decide := true) only [f16, nL, cp, cp2, sFor, hi, hr, e, tt, et, cln_mx0, eq_self, decide_true, decide_false, runFn, evSs, evS, evE, evL, evO, evB, evAndB, evOrB, evT, evAnd, evOr, evTs, sSeq, sRet, sPass, sAsg, sExpr, sIf, sRaise, sSetIx, sAug, xCall, xOfT, xAnd, xOr, xBol, xTru, xNot, xPr, xMe, xCons, xNil, xVar, xChain, xCB, xC, xIte, xTup, xLst, xDic, xSl, xAt, xNoP, okTup, okLst, getS, setS, startS, Rs.bind, Rs.then, Rt.and, boolR, truthR, truthD, okBl, asgT, asgTs, gl_ct, call_ct, fu_ct, end_next, end_exc, end_bl, end_int, end_str, end_non, end_tup, clean_bl, clean_int, clean_str, clean_non, clean_tup, nl_non, nl_bl, nl_int, nl_str, nl_tup, nl_loc, nlL_nil, nlL_cons, Bool.and_true, Bool.true_and, Bool.and_false, Bool.false_and, Bool.or_true, Bool.or_false, Bool.true_or, Bool.false_or, Bool.not_true, Bool.not_false, List.length_cons, List.length_nil, List.map_cons, List.map_nil, List.cons_append, List.nil_append, List.getElem?_cons_zero, List.getElem?_cons_succ, List.set_cons_zero, List.set_cons_succ, Nat.reduceAdd, Int.reduceSub, Int.reduceNeg, Nat.reduceSub, Nat.reduceBEq, List.replicate_succ, List.replicate_zero, if_true, if_false, reduceIte, beq_self_eq_true, cln_self, q_le, q_lt, q_gt, q_ge, q_add, q_sub, q_neg, q_abs, q_int, q_bool, q_eqI, q_neI, q_ix0, q_ix1, q_ix2, q_lenT, q_isInt, q_isBool, q_isTuple, q_isStr, p_is, tyD, tInt, tBool, tTuple, tStr, ok_zs_get, ok_zs_remove, ok_zs_put, ok_zs_add, ok_zs_sum, ok_zs_not_records, ok_zs_not_an_operation, ok_zs_part, ok_zs_merge, ok_zs_not_a_nest, ok_zs_abort, ok_zs_records, ok_zs_operation, ok_zs_nest, ok_z14, ok_zs_stop, ok_zs_Part, gl_KEYS, gl_HIGHEST, gl_ROUND, gl_ITEMS, gl_DEEP, gl_ENDS]
/-! the law's own -/
theorem ldone_loop (n k : Nat) (m : Mem) (V : Option D) (ih : ∀ (q : Ns) (l : List (Int × Int)) (m : Mem) (a : Nat), q.dep + 1 ≤ k → Good l → q.ok → q.cnt ≤ 40 → l.length + q.cnt ≤ 90 → m.get a = some (.dic (dk l)) →
      ∃ (os : List Ob) (i : Nat), (callL tb (n + 1 + k)).1 27 [.loc a, .tup q.Ds] m = .ok (.tup [.loc i, .tup (q.dres l).2]) (mx m os []) ∧ (mx m os []).get i = some (.dic (dk (q.dres l).1))) :
    ∀ (r : Ns) (l : List (Int × Int)) (acc : List D) (os : List Ob) (a : Nat) (x3 x4 x5 x6 : Option D), Good l → r.ok → r.dep ≤ k → r.cnt + acc.length ≤ 40 → l.length + r.cnt ≤ 90 → (mx m os []).get a = some (.dic (dk l)) →
      ∃ (os2 : List Ob) (i : Nat) (y3 y4 y5 y6 : Option D), forF (evSs (Cn (n + 1 + k)) b27_0) (.nm 3) r.Ds [some (.loc a), V, some (.tup acc), x3, x4, x5, x6] (mx m os []) =
        .next [some (.loc i), V, some (.tup (acc ++ (r.dres l).2)), y3, y4, y5, y6] (mx m os2 []) ∧ (mx m os2 []).get i = some (.dic (dk (r.dres l).1))
  | .nil, l, acc, os, a, x3, x4, x5, x6, _, _, _, _, _, hg => ⟨os, a, x3, x4, x5, x6, by simp only [Ns.Ds, Ns.dres, List.append_nil]; rfl, hg⟩
  | .op o r, l, acc, os, a, x3, x4, x5, x6, hl, ho, hd, hc, hz, hg => by
    simp only [Ns.cnt] at hc hz
    obtain ⟨os1, j, e1, e2⟩ := law_done_eq (n + k) (mx m os []) a l o hg hl.2 (by omega)
    have en : n + k + 1 = n + 1 + k := by omega
    rw [en] at e1
    obtain ⟨_, s2, s3⟩ := dstp_stp hl ho.1
    have dl := dstp_len (l := l) o
    have hg1 : (mx m (os ++ os1) []).get ((mx m os []).len + j) = some (.dic (dk (dstp l o).1)) := by
      rw [mx_len, Nat.add_assoc, mx_get, List.getElem?_append_right (by omega)]
      rw [show os.length + j - os.length = j by omega]
      exact e2
    have hm : mx (mx m os []) os1 [] = mx m (os ++ os1) [] := by rw [mx_mx]; rfl
    rw [hm] at e1
    generalize (mx m os []).len + j = i1 at e1 hg1
    obtain ⟨z, z1, z2⟩ := idx0_op o (mx m os [])
    have ci : ∀ (d : D) (m1 m2 : Mem), clean m1 (.tup [.loc i1, d]) m2 = .ok (.tup [.loc i1, d]) m2 := fun d m1 m2 => by
      unfold clean
      have : D.nl (.tup [.loc i1, d]) = false := by simp [D.nl, D.nlL]
      rw [this]
    have addT : ∀ (d : D) m, prim .add [.tup acc, .tup [d]] m = .ok (.tup (acc ++ [d])) m := fun d m => by
      show okIf (decide (acc.length + [d].length ≤ sizeLine)) _ m = _
      have : decide (acc.length + [d].length ≤ sizeLine) = true := decide_eq_true (Nat.le_trans (show acc.length + [d].length ≤ 100 by simp; omega) (by decide))
      rw [this]
      rfl
    have ctn : ∀ (xs : List D) (M : Mem), ∃ M2 : Mem, clean M (.tup xs) M = .ok (.tup xs) M2 ∧ M2 = M := fun xs M => by
      refine ⟨M, ?_, rfl⟩
      unfold clean
      cases D.nl (.tup xs) <;> simp [cln_self]
    have cs : ∀ (xs : List D) (M : Mem), clean M (.tup xs) M = .ok (.tup xs) M := fun xs M => by
      obtain ⟨M2, h1, h2⟩ := ctn xs M
      rw [h1, h2]
    have step : evSs (Cn (n + 1 + k)) b27_0 [some (.loc a), V, some (.tup acc), some o.D, x4, x5, x6] (mx m os []) = .next [some (.loc i1), V, some (.tup (acc ++ [(dstp l o).2])), some o.D, x4, x5, some (dstp l o).2] (mx m (os ++ os1) []) := by
      simp (decide := true) only [b27_0, z1, q_eqS, z2, e1, ci, addT, cs, cln_self, eq_self, decide_true, decide_false, runFn, evSs, evS, evE, evL, evO, evB, evAndB, evOrB, evT, evAnd, evOr, evTs, sSeq, sRet, sPass, sAsg, sExpr, sIf, sRaise, sSetIx, sAug, xCall, xOfT, xAnd, xOr, xBol, xTru, xNot, xPr, xMe, xCons, xNil, xVar, xChain, xCB, xC, xIte, xTup, xLst, xDic, xSl, xAt, xNoP, okTup, okLst, getS, setS, startS, Rs.bind, Rs.then, Rt.and, boolR, truthR, truthD, okBl, asgT, asgTs, gl_ct, call_ct, fu_ct, end_next, end_exc, end_bl, end_int, end_str, end_non, end_tup, clean_bl, clean_int, clean_str, clean_non, clean_tup, nl_non, nl_bl, nl_int, nl_str, nl_tup, nl_loc, nlL_nil, nlL_cons, Bool.and_true, Bool.true_and, Bool.and_false, Bool.false_and, Bool.or_true, Bool.or_false, Bool.true_or, Bool.false_or, Bool.not_true, Bool.not_false, List.length_cons, List.length_nil, List.map_cons, List.map_nil, List.cons_append, List.nil_append, List.getElem?_cons_zero, List.getElem?_cons_succ, List.set_cons_zero, List.set_cons_succ, Nat.reduceAdd, Int.reduceSub, Int.reduceNeg, Nat.reduceSub, Nat.reduceBEq, List.replicate_succ, List.replicate_zero, if_true, if_false, reduceIte, beq_self_eq_true, cln_self, q_le, q_lt, q_gt, q_ge, q_add, q_sub, q_neg, q_abs, q_int, q_bool, q_eqI, q_neI, q_ix0, q_ix1, q_ix2, q_lenT, q_isInt, q_isBool, q_isTuple, q_isStr, p_is, tyD, tInt, tBool, tTuple, tStr, ok_zs_get, ok_zs_remove, ok_zs_put, ok_zs_add, ok_zs_sum, ok_zs_not_records, ok_zs_not_an_operation, ok_zs_part, ok_zs_merge, ok_zs_not_a_nest, ok_zs_abort, ok_zs_records, ok_zs_operation, ok_zs_nest, ok_z14, ok_zs_stop, ok_zs_Part, gl_KEYS, gl_HIGHEST, gl_ROUND, gl_ITEMS, gl_DEEP, gl_ENDS]
    obtain ⟨os2, i, y3, y4, y5, y6, e3, e4⟩ := ldone_loop n k m V ih r (dstp l o).1 (acc ++ [(dstp l o).2]) (os ++ os1) i1 (some o.D) x4 x5 (some (dstp l o).2) s3 ho.2 hd (by simp; omega) (by omega) hg1
    refine ⟨os2, i, y3, y4, y5, y6, ?_, e4⟩
    simp only [Ns.Ds, forF, asgT, setS, List.set_cons_succ, List.set_cons_zero, step, e3, Ns.dres, List.append_assoc, List.cons_append, List.nil_append]
  | .part q b r, l, acc, os, a, x3, x4, x5, x6, hl, ho, hd, hc, hz, hg => by
    simp only [Ns.cnt] at hc hz
    simp only [Ns.dep] at hd
    obtain ⟨os1, i1, e1, e2⟩ := ih q l (mx m os []) a (by omega) hl ho.1 (by omega) (by omega) hg
    obtain ⟨_, _, s3⟩ := dres_res q l hl ho.1
    have dl := dres_len q l
    have hm : mx (mx m os []) os1 [] = mx m (os ++ os1) [] := by rw [mx_mx]; rfl
    rw [hm] at e1 e2
    have ci : ∀ (j : Nat) (d : D) (m1 m2 : Mem), clean m1 (.tup [.loc j, d]) m2 = .ok (.tup [.loc j, d]) m2 := fun j d m1 m2 => by
      unfold clean
      have : D.nl (.tup [.loc j, d]) = false := by simp [D.nl, D.nlL]
      rw [this]
    have addT : ∀ (d : D) m, prim .add [.tup acc, .tup [d]] m = .ok (.tup (acc ++ [d])) m := fun d m => by
      show okIf (decide (acc.length + [d].length ≤ sizeLine)) _ m = _
      have : decide (acc.length + [d].length ≤ sizeLine) = true := decide_eq_true (Nat.le_trans (show acc.length + [d].length ≤ 100 by simp; omega) (by decide))
      rw [this]
      rfl
    have hgo : (mx m (os ++ os1) []).get a = some (.dic (dk l)) := by
      rw [← hm]
      exact mx_old hg _ _
    cases b with
    | true =>
      have step : evSs (Cn (n + 1 + k)) b27_0 [some (.loc a), V, some (.tup acc), some (.tup [.str zs_part, .tup q.Ds, .str zs_merge]), x4, x5, x6] (mx m os []) = .next [some (.loc i1), V, some (.tup (acc ++ [.tup (q.dres l).2])), some (.tup [.str zs_part, .tup q.Ds, .str zs_merge]), some (.loc i1), some (.tup (q.dres l).2), x6] (mx m (os ++ os1) []) := by
        simp (decide := true) only [b27_0, q_eqS, e1, ci, addT, cln_self, eq_self, decide_true, decide_false, runFn, evSs, evS, evE, evL, evO, evB, evAndB, evOrB, evT, evAnd, evOr, evTs, sSeq, sRet, sPass, sAsg, sExpr, sIf, sRaise, sSetIx, sAug, xCall, xOfT, xAnd, xOr, xBol, xTru, xNot, xPr, xMe, xCons, xNil, xVar, xChain, xCB, xC, xIte, xTup, xLst, xDic, xSl, xAt, xNoP, okTup, okLst, getS, setS, startS, Rs.bind, Rs.then, Rt.and, boolR, truthR, truthD, okBl, asgT, asgTs, gl_ct, call_ct, fu_ct, end_next, end_exc, end_bl, end_int, end_str, end_non, end_tup, clean_bl, clean_int, clean_str, clean_non, clean_tup, nl_non, nl_bl, nl_int, nl_str, nl_tup, nl_loc, nlL_nil, nlL_cons, Bool.and_true, Bool.true_and, Bool.and_false, Bool.false_and, Bool.or_true, Bool.or_false, Bool.true_or, Bool.false_or, Bool.not_true, Bool.not_false, List.length_cons, List.length_nil, List.map_cons, List.map_nil, List.cons_append, List.nil_append, List.getElem?_cons_zero, List.getElem?_cons_succ, List.set_cons_zero, List.set_cons_succ, Nat.reduceAdd, Int.reduceSub, Int.reduceNeg, Nat.reduceSub, Nat.reduceBEq, List.replicate_succ, List.replicate_zero, if_true, if_false, reduceIte, beq_self_eq_true, cln_self, q_le, q_lt, q_gt, q_ge, q_add, q_sub, q_neg, q_abs, q_int, q_bool, q_eqI, q_neI, q_ix0, q_ix1, q_ix2, q_lenT, q_isInt, q_isBool, q_isTuple, q_isStr, p_is, tyD, tInt, tBool, tTuple, tStr, ok_zs_get, ok_zs_remove, ok_zs_put, ok_zs_add, ok_zs_sum, ok_zs_not_records, ok_zs_not_an_operation, ok_zs_part, ok_zs_merge, ok_zs_not_a_nest, ok_zs_abort, ok_zs_records, ok_zs_operation, ok_zs_nest, ok_z14, ok_zs_stop, ok_zs_Part, gl_KEYS, gl_HIGHEST, gl_ROUND, gl_ITEMS, gl_DEEP, gl_ENDS]
      obtain ⟨os2, i, y3, y4, y5, y6, e3, e4⟩ := ldone_loop n k m V ih r (q.dres l).1 (acc ++ [.tup (q.dres l).2]) (os ++ os1) i1 (some (.tup [.str zs_part, .tup q.Ds, .str zs_merge])) (some (.loc i1)) (some (.tup (q.dres l).2)) x6 s3 ho.2 (by omega) (by simp; omega) (by omega) e2
      refine ⟨os2, i, y3, y4, y5, y6, ?_, e4⟩
      simp only [Ns.Ds, endS, forF, asgT, setS, List.set_cons_succ, List.set_cons_zero, step, e3, Ns.dres, if_true, List.append_assoc, List.cons_append, List.nil_append]
    | false =>
      have step : evSs (Cn (n + 1 + k)) b27_0 [some (.loc a), V, some (.tup acc), some (.tup [.str zs_part, .tup q.Ds, .str zs_abort]), x4, x5, x6] (mx m os []) = .next [some (.loc a), V, some (.tup (acc ++ [.tup (q.dres l).2])), some (.tup [.str zs_part, .tup q.Ds, .str zs_abort]), some (.loc i1), some (.tup (q.dres l).2), x6] (mx m (os ++ os1) []) := by
        simp (decide := true) only [b27_0, q_eqS, e1, ci, addT, cln_self, eq_self, decide_true, decide_false, runFn, evSs, evS, evE, evL, evO, evB, evAndB, evOrB, evT, evAnd, evOr, evTs, sSeq, sRet, sPass, sAsg, sExpr, sIf, sRaise, sSetIx, sAug, xCall, xOfT, xAnd, xOr, xBol, xTru, xNot, xPr, xMe, xCons, xNil, xVar, xChain, xCB, xC, xIte, xTup, xLst, xDic, xSl, xAt, xNoP, okTup, okLst, getS, setS, startS, Rs.bind, Rs.then, Rt.and, boolR, truthR, truthD, okBl, asgT, asgTs, gl_ct, call_ct, fu_ct, end_next, end_exc, end_bl, end_int, end_str, end_non, end_tup, clean_bl, clean_int, clean_str, clean_non, clean_tup, nl_non, nl_bl, nl_int, nl_str, nl_tup, nl_loc, nlL_nil, nlL_cons, Bool.and_true, Bool.true_and, Bool.and_false, Bool.false_and, Bool.or_true, Bool.or_false, Bool.true_or, Bool.false_or, Bool.not_true, Bool.not_false, List.length_cons, List.length_nil, List.map_cons, List.map_nil, List.cons_append, List.nil_append, List.getElem?_cons_zero, List.getElem?_cons_succ, List.set_cons_zero, List.set_cons_succ, Nat.reduceAdd, Int.reduceSub, Int.reduceNeg, Nat.reduceSub, Nat.reduceBEq, List.replicate_succ, List.replicate_zero, if_true, if_false, reduceIte, beq_self_eq_true, cln_self, q_le, q_lt, q_gt, q_ge, q_add, q_sub, q_neg, q_abs, q_int, q_bool, q_eqI, q_neI, q_ix0, q_ix1, q_ix2, q_lenT, q_isInt, q_isBool, q_isTuple, q_isStr, p_is, tyD, tInt, tBool, tTuple, tStr, ok_zs_get, ok_zs_remove, ok_zs_put, ok_zs_add, ok_zs_sum, ok_zs_not_records, ok_zs_not_an_operation, ok_zs_part, ok_zs_merge, ok_zs_not_a_nest, ok_zs_abort, ok_zs_records, ok_zs_operation, ok_zs_nest, ok_z14, ok_zs_stop, ok_zs_Part, gl_KEYS, gl_HIGHEST, gl_ROUND, gl_ITEMS, gl_DEEP, gl_ENDS]
      obtain ⟨os2, i, y3, y4, y5, y6, e3, e4⟩ := ldone_loop n k m V ih r l (acc ++ [.tup (q.dres l).2]) (os ++ os1) a (some (.tup [.str zs_part, .tup q.Ds, .str zs_abort])) (some (.loc i1)) (some (.tup (q.dres l).2)) x6 hl ho.2 (by omega) (by simp; omega) (by omega) hgo
      refine ⟨os2, i, y3, y4, y5, y6, ?_, e4⟩
      simp only [Ns.Ds, endS, forF, asgT, setS, List.set_cons_succ, List.set_cons_zero, step, e3, Ns.dres, Bool.false_eq_true, if_false, List.append_assoc, List.cons_append, List.nil_append]
theorem ldone_eq (n : Nat) : ∀ (k : Nat) (r : Ns) (l : List (Int × Int)) (m : Mem) (a : Nat), r.dep ≤ k → Good l → r.ok → r.cnt ≤ 40 → l.length + r.cnt ≤ 90 → m.get a = some (.dic (dk l)) →
      ∃ (os : List Ob) (i : Nat), (callL tb (n + 2 + k)).1 27 [.loc a, .tup r.Ds] m = .ok (.tup [.loc i, .tup (r.dres l).2]) (mx m os []) ∧ (mx m os []).get i = some (.dic (dk (r.dres l).1))
  | k, r, l, m, a, hd, hl, ho, hc, hz, hg => by
    obtain ⟨os, i, y3, y4, y5, y6, e, e2⟩ := ldone_loop n k m (some (.tup r.Ds)) (fun q l m a hq hl ho hc hz hg => by
      obtain ⟨k, rfl⟩ : ∃ j, k = j + 1 := ⟨k - 1, by omega⟩
      have en : n + 1 + (k + 1) = n + 2 + k := by omega
      rw [en]
      exact ldone_eq n k q l m a (by omega) hl ho hc hz hg) r l [] [] a none none none none hl ho hd (by simp; omega) hz (by rw [mx_nil]; exact hg)
    refine ⟨os, i, ?_, e2⟩
    rw [mx_nil] at e
    have en : n + 2 + k = n + 1 + k + 1 := by omega
    rw [en, call_s (fd := f27) rfl]
    have hi : ∀ m, itOf .seq [.tup r.Ds] m = some (.fixed r.Ds) := fun _ => rfl
    have hr : ∀ b fu s m, forRun fu b (.nm 3) (.fixed r.Ds) s m = forF b (.nm 3) r.Ds s m := fun _ _ _ _ => rfl
    have ct := fun (m m' : Mem) => clean_tup m m' [] rfl
    have et : ∀ (d : D) (M : Mem), endR m (.ret (.tup [.loc i, d]) M) = .ok (.tup [.loc i, d]) M := fun d M => by
      show clean m (.tup [.loc i, d]) M = _
      unfold clean
      have : D.nl (.tup [.loc i, d]) = false := by simp [D.nl, D.nlL]
      rw [this]
    simp (decide := true) only [f27, ct, sFor, hi, hr, e, et, cln_self, eq_self, decide_true, decide_false, runFn, evSs, evS, evE, evL, evO, evB, evAndB, evOrB, evT, evAnd, evOr, evTs, sSeq, sRet, sPass, sAsg, sExpr, sIf, sRaise, sSetIx, sAug, xCall, xOfT, xAnd, xOr, xBol, xTru, xNot, xPr, xMe, xCons, xNil, xVar, xChain, xCB, xC, xIte, xTup, xLst, xDic, xSl, xAt, xNoP, okTup, okLst, getS, setS, startS, Rs.bind, Rs.then, Rt.and, boolR, truthR, truthD, okBl, asgT, asgTs, gl_ct, call_ct, fu_ct, end_next, end_exc, end_bl, end_int, end_str, end_non, end_tup, clean_bl, clean_int, clean_str, clean_non, clean_tup, nl_non, nl_bl, nl_int, nl_str, nl_tup, nl_loc, nlL_nil, nlL_cons, Bool.and_true, Bool.true_and, Bool.and_false, Bool.false_and, Bool.or_true, Bool.or_false, Bool.true_or, Bool.false_or, Bool.not_true, Bool.not_false, List.length_cons, List.length_nil, List.map_cons, List.map_nil, List.cons_append, List.nil_append, List.getElem?_cons_zero, List.getElem?_cons_succ, List.set_cons_zero, List.set_cons_succ, Nat.reduceAdd, Int.reduceSub, Int.reduceNeg, Nat.reduceSub, Nat.reduceBEq, List.replicate_succ, List.replicate_zero, if_true, if_false, reduceIte, beq_self_eq_true, cln_self, q_le, q_lt, q_gt, q_ge, q_add, q_sub, q_neg, q_abs, q_int, q_bool, q_eqI, q_neI, q_ix0, q_ix1, q_ix2, q_lenT, q_isInt, q_isBool, q_isTuple, q_isStr, p_is, tyD, tInt, tBool, tTuple, tStr, ok_zs_get, ok_zs_remove, ok_zs_put, ok_zs_add, ok_zs_sum, ok_zs_not_records, ok_zs_not_an_operation, ok_zs_part, ok_zs_merge, ok_zs_not_a_nest, ok_zs_abort, ok_zs_records, ok_zs_operation, ok_zs_nest, ok_z14, ok_zs_stop, ok_zs_Part, gl_KEYS, gl_HIGHEST, gl_ROUND, gl_ITEMS, gl_DEEP, gl_ENDS]
/-! what is kept -/
theorem ops_nl : ∀ os : List Op, D.nlL (os.map Op.D) = true
  | [] => rfl
  | o :: os => by simp only [List.map_cons, nlL_cons, nl_op, ops_nl os, Bool.and_true]
theorem need_nest_eq (n : Nat) (l : Ns) (hk : l.ok) (hc : l.cnt ≤ 40) (hd : l.dep ≤ 5) (m : Mem) : (callL tb (n + 7)).1 18 [.tup l.Ds] m = .ok .non m := by
  have f := fun m => fits_nest_eq n l hk hc hd m
  rw [call_s (fd := f18) rfl]
  simp (decide := true) only [f18, f, cln_self, eq_self, decide_true, decide_false, runFn, evSs, evS, evE, evL, evO, evB, evAndB, evOrB, evT, evAnd, evOr, evTs, sSeq, sRet, sPass, sAsg, sExpr, sIf, sRaise, sSetIx, sAug, xCall, xOfT, xAnd, xOr, xBol, xTru, xNot, xPr, xMe, xCons, xNil, xVar, xChain, xCB, xC, xIte, xTup, xLst, xDic, xSl, xAt, xNoP, okTup, okLst, getS, setS, startS, Rs.bind, Rs.then, Rt.and, boolR, truthR, truthD, okBl, asgT, asgTs, gl_ct, call_ct, fu_ct, end_next, end_exc, end_bl, end_int, end_str, end_non, end_tup, clean_bl, clean_int, clean_str, clean_non, clean_tup, nl_non, nl_bl, nl_int, nl_str, nl_tup, nl_loc, nlL_nil, nlL_cons, Bool.and_true, Bool.true_and, Bool.and_false, Bool.false_and, Bool.or_true, Bool.or_false, Bool.true_or, Bool.false_or, Bool.not_true, Bool.not_false, List.length_cons, List.length_nil, List.map_cons, List.map_nil, List.cons_append, List.nil_append, List.getElem?_cons_zero, List.getElem?_cons_succ, List.set_cons_zero, List.set_cons_succ, Nat.reduceAdd, Int.reduceSub, Int.reduceNeg, Nat.reduceSub, Nat.reduceBEq, List.replicate_succ, List.replicate_zero, if_true, if_false, reduceIte, beq_self_eq_true, cln_self, q_le, q_lt, q_gt, q_ge, q_add, q_sub, q_neg, q_abs, q_int, q_bool, q_eqI, q_neI, q_ix0, q_ix1, q_ix2, q_lenT, q_isInt, q_isBool, q_isTuple, q_isStr, p_is, tyD, tInt, tBool, tTuple, tStr, ok_zs_get, ok_zs_remove, ok_zs_put, ok_zs_add, ok_zs_sum, ok_zs_not_records, ok_zs_not_an_operation, ok_zs_part, ok_zs_merge, ok_zs_not_a_nest, ok_zs_abort, ok_zs_records, ok_zs_operation, ok_zs_nest, ok_z14, ok_zs_stop, ok_zs_Part, gl_KEYS, gl_HIGHEST, gl_ROUND, gl_ITEMS, gl_DEEP, gl_ENDS]
theorem is_nest_eq (n : Nat) (l : Ns) (hk : l.ok) (hc : l.cnt ≤ 40) (hd : l.dep ≤ 5) (m : Mem) : (callL tb (n + 7)).1 19 [.tup l.Ds] m = .ok (.bl true) m := by
  have f := fun m => fits_nest_eq n l hk hc hd m
  rw [call_s (fd := f19) rfl]
  simp (decide := true) only [f19, f, cln_self, eq_self, decide_true, decide_false, runFn, evSs, evS, evE, evL, evO, evB, evAndB, evOrB, evT, evAnd, evOr, evTs, sSeq, sRet, sPass, sAsg, sExpr, sIf, sRaise, sSetIx, sAug, xCall, xOfT, xAnd, xOr, xBol, xTru, xNot, xPr, xMe, xCons, xNil, xVar, xChain, xCB, xC, xIte, xTup, xLst, xDic, xSl, xAt, xNoP, okTup, okLst, getS, setS, startS, Rs.bind, Rs.then, Rt.and, boolR, truthR, truthD, okBl, asgT, asgTs, gl_ct, call_ct, fu_ct, end_next, end_exc, end_bl, end_int, end_str, end_non, end_tup, clean_bl, clean_int, clean_str, clean_non, clean_tup, nl_non, nl_bl, nl_int, nl_str, nl_tup, nl_loc, nlL_nil, nlL_cons, Bool.and_true, Bool.true_and, Bool.and_false, Bool.false_and, Bool.or_true, Bool.or_false, Bool.true_or, Bool.false_or, Bool.not_true, Bool.not_false, List.length_cons, List.length_nil, List.map_cons, List.map_nil, List.cons_append, List.nil_append, List.getElem?_cons_zero, List.getElem?_cons_succ, List.set_cons_zero, List.set_cons_succ, Nat.reduceAdd, Int.reduceSub, Int.reduceNeg, Nat.reduceSub, Nat.reduceBEq, List.replicate_succ, List.replicate_zero, if_true, if_false, reduceIte, beq_self_eq_true, cln_self, q_le, q_lt, q_gt, q_ge, q_add, q_sub, q_neg, q_abs, q_int, q_bool, q_eqI, q_neI, q_ix0, q_ix1, q_ix2, q_lenT, q_isInt, q_isBool, q_isTuple, q_isStr, p_is, tyD, tInt, tBool, tTuple, tStr, ok_zs_get, ok_zs_remove, ok_zs_put, ok_zs_add, ok_zs_sum, ok_zs_not_records, ok_zs_not_an_operation, ok_zs_part, ok_zs_merge, ok_zs_not_a_nest, ok_zs_abort, ok_zs_records, ok_zs_operation, ok_zs_nest, ok_z14, ok_zs_stop, ok_zs_Part, gl_KEYS, gl_HIGHEST, gl_ROUND, gl_ITEMS, gl_DEEP, gl_ENDS]
theorem do_nest_eq (n : Nat) (l : Ns) (L : List (Int × Int)) (hL : Can L) (hk : l.ok) (hc : l.cnt ≤ 40) (hd : l.dep ≤ 5) (m : Mem) : (callL tb (n + 10)).1 20 [recD L, .tup l.Ds] m = .ok (.tup [recD (l.res L).1, .tup (l.res L).2]) m := by
  have n1 := fun m => need_nest_eq (n + 2) l hk hc hd m
  have n2 := fun m => need_recs (n + 5) L hL (can_len64 hL) m
  have r1 := fun m => results_eq n 5 l L m hd hL hk (by omega)
  have et := fun (m' : Mem) => end_tup m m' [recD (l.res L).1, .tup (l.res L).2] (by simp only [nlL_cons, nl_recD, nl_tup, res_nl, nlL_nil, Bool.and_true])
  rw [call_s (fd := f20) rfl]
  simp (decide := true) only [f20, n1, n2, r1, et, cln_self, eq_self, decide_true, decide_false, runFn, evSs, evS, evE, evL, evO, evB, evAndB, evOrB, evT, evAnd, evOr, evTs, sSeq, sRet, sPass, sAsg, sExpr, sIf, sRaise, sSetIx, sAug, xCall, xOfT, xAnd, xOr, xBol, xTru, xNot, xPr, xMe, xCons, xNil, xVar, xChain, xCB, xC, xIte, xTup, xLst, xDic, xSl, xAt, xNoP, okTup, okLst, getS, setS, startS, Rs.bind, Rs.then, Rt.and, boolR, truthR, truthD, okBl, asgT, asgTs, gl_ct, call_ct, fu_ct, end_next, end_exc, end_bl, end_int, end_str, end_non, end_tup, clean_bl, clean_int, clean_str, clean_non, clean_tup, nl_non, nl_bl, nl_int, nl_str, nl_tup, nl_loc, nlL_nil, nlL_cons, Bool.and_true, Bool.true_and, Bool.and_false, Bool.false_and, Bool.or_true, Bool.or_false, Bool.true_or, Bool.false_or, Bool.not_true, Bool.not_false, List.length_cons, List.length_nil, List.map_cons, List.map_nil, List.cons_append, List.nil_append, List.getElem?_cons_zero, List.getElem?_cons_succ, List.set_cons_zero, List.set_cons_succ, Nat.reduceAdd, Int.reduceSub, Int.reduceNeg, Nat.reduceSub, Nat.reduceBEq, List.replicate_succ, List.replicate_zero, if_true, if_false, reduceIte, beq_self_eq_true, cln_self, q_le, q_lt, q_gt, q_ge, q_add, q_sub, q_neg, q_abs, q_int, q_bool, q_eqI, q_neI, q_ix0, q_ix1, q_ix2, q_lenT, q_isInt, q_isBool, q_isTuple, q_isStr, p_is, tyD, tInt, tBool, tTuple, tStr, ok_zs_get, ok_zs_remove, ok_zs_put, ok_zs_add, ok_zs_sum, ok_zs_not_records, ok_zs_not_an_operation, ok_zs_part, ok_zs_merge, ok_zs_not_a_nest, ok_zs_abort, ok_zs_records, ok_zs_operation, ok_zs_nest, ok_z14, ok_zs_stop, ok_zs_Part, gl_KEYS, gl_HIGHEST, gl_ROUND, gl_ITEMS, gl_DEEP, gl_ENDS]
theorem kept_loop (n k : Nat) (m : Mem) (V : Option D) (ih : ∀ (q : Ns) (m : Mem), q.dep + 1 ≤ k → q.cnt ≤ 100 → (callL tb (n + 1 + k)).1 17 [.tup q.Ds] m = .ok (.loc m.len) (mx m [.lst (q.kept.map Op.D)] [])) :
    ∀ (r : Ns) (acc : List Op) (gs : List Ob) (x2 : Option D), r.dep ≤ k → r.cnt + acc.length ≤ 100 → ∃ (gs2 : List Ob) (y2 : Option D),
      forF (evSs (Cn (n + 1 + k)) b17_0) (.nm 2) r.Ds [V, some (.loc m.len), x2] (mx m (.lst (acc.map Op.D) :: gs) []) = .next [V, some (.loc m.len), y2] (mx m (.lst ((acc ++ r.kept).map Op.D) :: gs2) [])
  | .nil, acc, gs, x2, _, _ => ⟨gs, x2, by simp only [Ns.Ds, Ns.kept, List.append_nil]; rfl⟩
  | .op o r, acc, gs, x2, hd, hc => by
    simp only [Ns.cnt] at hc
    have f1 := fun m => is_part_op (n + k) o m
    have en : n + k + 1 = n + 1 + k := by omega
    rw [en] at f1
    have kd : kindOk .append (.loc m.len) (mx m (.lst (acc.map Op.D) :: gs) []) = true := isLst_of (mx_get0 m _ _)
    have qa := q_app (m := m) (os := gs) (u := []) (xs := acc.map Op.D) (y := o.D) (by rw [List.length_map]; omega) (nl_op o)
    have cl : ∀ a b, cln (mx m (a :: gs) []) (mx m (b :: gs) []) = mx m (b :: gs) [] := fun a b => by rw [cln_mx]; simp
    have step : evSs (Cn (n + 1 + k)) b17_0 [V, some (.loc m.len), some o.D] (mx m (.lst (acc.map Op.D) :: gs) []) = .next [V, some (.loc m.len), some o.D] (mx m (.lst (acc.map Op.D ++ [o.D]) :: gs) []) := by
      simp (decide := true) only [b17_0, f1, kd, qa, cl, eq_self, decide_true, decide_false, runFn, evSs, evS, evE, evL, evO, evB, evAndB, evOrB, evT, evAnd, evOr, evTs, sSeq, sRet, sPass, sAsg, sExpr, sIf, sRaise, sSetIx, sAug, xCall, xOfT, xAnd, xOr, xBol, xTru, xNot, xPr, xMe, xCons, xNil, xVar, xChain, xCB, xC, xIte, xTup, xLst, xDic, xSl, xAt, xNoP, okTup, okLst, getS, setS, startS, Rs.bind, Rs.then, Rt.and, boolR, truthR, truthD, okBl, asgT, asgTs, gl_ct, call_ct, fu_ct, end_next, end_exc, end_bl, end_int, end_str, end_non, end_tup, clean_bl, clean_int, clean_str, clean_non, clean_tup, nl_non, nl_bl, nl_int, nl_str, nl_tup, nl_loc, nlL_nil, nlL_cons, Bool.and_true, Bool.true_and, Bool.and_false, Bool.false_and, Bool.or_true, Bool.or_false, Bool.true_or, Bool.false_or, Bool.not_true, Bool.not_false, List.length_cons, List.length_nil, List.map_cons, List.map_nil, List.cons_append, List.nil_append, List.getElem?_cons_zero, List.getElem?_cons_succ, List.set_cons_zero, List.set_cons_succ, Nat.reduceAdd, Int.reduceSub, Int.reduceNeg, Nat.reduceSub, Nat.reduceBEq, List.replicate_succ, List.replicate_zero, if_true, if_false, reduceIte, beq_self_eq_true, cln_self, q_le, q_lt, q_gt, q_ge, q_add, q_sub, q_neg, q_abs, q_int, q_bool, q_eqI, q_neI, q_ix0, q_ix1, q_ix2, q_lenT, q_isInt, q_isBool, q_isTuple, q_isStr, p_is, tyD, tInt, tBool, tTuple, tStr, ok_zs_get, ok_zs_remove, ok_zs_put, ok_zs_add, ok_zs_sum, ok_zs_not_records, ok_zs_not_an_operation, ok_zs_part, ok_zs_merge, ok_zs_not_a_nest, ok_zs_abort, ok_zs_records, ok_zs_operation, ok_zs_nest, ok_z14, ok_zs_stop, ok_zs_Part, gl_KEYS, gl_HIGHEST, gl_ROUND, gl_ITEMS, gl_DEEP, gl_ENDS]
    have ea : acc.map Op.D ++ [o.D] = (acc ++ [o]).map Op.D := by simp
    rw [ea] at step
    obtain ⟨gs2, y2, e⟩ := kept_loop n k m V ih r (acc ++ [o]) gs (some o.D) hd (by simp; omega)
    refine ⟨gs2, y2, ?_⟩
    simp only [Ns.Ds, forF, asgT, setS, List.set_cons_succ, List.set_cons_zero, step, e, Ns.kept, List.append_assoc, List.cons_append, List.nil_append]
  | .part q true r, acc, gs, x2, hd, hc => by
    simp only [Ns.cnt] at hc
    simp only [Ns.dep] at hd
    have f1 := fun x y m => is_part_p (n + k) x y m
    have en : n + k + 1 = n + 1 + k := by omega
    rw [en] at f1
    have c1 := ih q (mx m (.lst (acc.map Op.D) :: gs) []) (by omega) (by omega)
    rw [mx_mx, mx_len] at c1
    simp only [List.length_cons, List.nil_append, List.cons_append] at c1
    have kl := kept_len q
    have nk : D.nlL (q.kept.map Op.D) = true := ops_nl q.kept
    have ag := aug_mx (m := m) (os := gs) (xs := acc.map Op.D) (ys := q.kept.map Op.D) (by rw [List.length_map, List.length_map]; omega) nk
    have step : evSs (Cn (n + 1 + k)) b17_0 [V, some (.loc m.len), some (.tup [.str zs_part, .tup q.Ds, .str zs_merge])] (mx m (.lst (acc.map Op.D) :: gs) []) =
        .next [V, some (.loc m.len), some (.tup [.str zs_part, .tup q.Ds, .str zs_merge])] (mx m (.lst (acc.map Op.D ++ q.kept.map Op.D) :: (gs ++ [.lst (q.kept.map Op.D)])) []) := by
      simp (decide := true) only [b17_0, f1, q_eqS, c1, ag, sAug, cln_self, eq_self, decide_true, decide_false, runFn, evSs, evS, evE, evL, evO, evB, evAndB, evOrB, evT, evAnd, evOr, evTs, sSeq, sRet, sPass, sAsg, sExpr, sIf, sRaise, sSetIx, sAug, xCall, xOfT, xAnd, xOr, xBol, xTru, xNot, xPr, xMe, xCons, xNil, xVar, xChain, xCB, xC, xIte, xTup, xLst, xDic, xSl, xAt, xNoP, okTup, okLst, getS, setS, startS, Rs.bind, Rs.then, Rt.and, boolR, truthR, truthD, okBl, asgT, asgTs, gl_ct, call_ct, fu_ct, end_next, end_exc, end_bl, end_int, end_str, end_non, end_tup, clean_bl, clean_int, clean_str, clean_non, clean_tup, nl_non, nl_bl, nl_int, nl_str, nl_tup, nl_loc, nlL_nil, nlL_cons, Bool.and_true, Bool.true_and, Bool.and_false, Bool.false_and, Bool.or_true, Bool.or_false, Bool.true_or, Bool.false_or, Bool.not_true, Bool.not_false, List.length_cons, List.length_nil, List.map_cons, List.map_nil, List.cons_append, List.nil_append, List.getElem?_cons_zero, List.getElem?_cons_succ, List.set_cons_zero, List.set_cons_succ, Nat.reduceAdd, Int.reduceSub, Int.reduceNeg, Nat.reduceSub, Nat.reduceBEq, List.replicate_succ, List.replicate_zero, if_true, if_false, reduceIte, beq_self_eq_true, cln_self, q_le, q_lt, q_gt, q_ge, q_add, q_sub, q_neg, q_abs, q_int, q_bool, q_eqI, q_neI, q_ix0, q_ix1, q_ix2, q_lenT, q_isInt, q_isBool, q_isTuple, q_isStr, p_is, tyD, tInt, tBool, tTuple, tStr, ok_zs_get, ok_zs_remove, ok_zs_put, ok_zs_add, ok_zs_sum, ok_zs_not_records, ok_zs_not_an_operation, ok_zs_part, ok_zs_merge, ok_zs_not_a_nest, ok_zs_abort, ok_zs_records, ok_zs_operation, ok_zs_nest, ok_z14, ok_zs_stop, ok_zs_Part, gl_KEYS, gl_HIGHEST, gl_ROUND, gl_ITEMS, gl_DEEP, gl_ENDS]
    rw [← List.map_append] at step
    obtain ⟨gs2, y2, e⟩ := kept_loop n k m V ih r (acc ++ q.kept) (gs ++ [.lst (q.kept.map Op.D)]) (some (.tup [.str zs_part, .tup q.Ds, .str zs_merge])) (by omega) (by rw [List.length_append]; omega)
    refine ⟨gs2, y2, ?_⟩
    simp only [Ns.Ds, endS, forF, asgT, setS, List.set_cons_succ, List.set_cons_zero, step, e, Ns.kept, if_true, List.append_assoc]
  | .part q false r, acc, gs, x2, hd, hc => by
    simp only [Ns.cnt] at hc
    simp only [Ns.dep] at hd
    have f1 := fun x y m => is_part_p (n + k) x y m
    have en : n + k + 1 = n + 1 + k := by omega
    rw [en] at f1
    have step : evSs (Cn (n + 1 + k)) b17_0 [V, some (.loc m.len), some (.tup [.str zs_part, .tup q.Ds, .str zs_abort])] (mx m (.lst (acc.map Op.D) :: gs) []) =
        .next [V, some (.loc m.len), some (.tup [.str zs_part, .tup q.Ds, .str zs_abort])] (mx m (.lst (acc.map Op.D) :: gs) []) := by
      simp (decide := true) only [b17_0, f1, q_eqS, cln_self, eq_self, decide_true, decide_false, runFn, evSs, evS, evE, evL, evO, evB, evAndB, evOrB, evT, evAnd, evOr, evTs, sSeq, sRet, sPass, sAsg, sExpr, sIf, sRaise, sSetIx, sAug, xCall, xOfT, xAnd, xOr, xBol, xTru, xNot, xPr, xMe, xCons, xNil, xVar, xChain, xCB, xC, xIte, xTup, xLst, xDic, xSl, xAt, xNoP, okTup, okLst, getS, setS, startS, Rs.bind, Rs.then, Rt.and, boolR, truthR, truthD, okBl, asgT, asgTs, gl_ct, call_ct, fu_ct, end_next, end_exc, end_bl, end_int, end_str, end_non, end_tup, clean_bl, clean_int, clean_str, clean_non, clean_tup, nl_non, nl_bl, nl_int, nl_str, nl_tup, nl_loc, nlL_nil, nlL_cons, Bool.and_true, Bool.true_and, Bool.and_false, Bool.false_and, Bool.or_true, Bool.or_false, Bool.true_or, Bool.false_or, Bool.not_true, Bool.not_false, List.length_cons, List.length_nil, List.map_cons, List.map_nil, List.cons_append, List.nil_append, List.getElem?_cons_zero, List.getElem?_cons_succ, List.set_cons_zero, List.set_cons_succ, Nat.reduceAdd, Int.reduceSub, Int.reduceNeg, Nat.reduceSub, Nat.reduceBEq, List.replicate_succ, List.replicate_zero, if_true, if_false, reduceIte, beq_self_eq_true, cln_self, q_le, q_lt, q_gt, q_ge, q_add, q_sub, q_neg, q_abs, q_int, q_bool, q_eqI, q_neI, q_ix0, q_ix1, q_ix2, q_lenT, q_isInt, q_isBool, q_isTuple, q_isStr, p_is, tyD, tInt, tBool, tTuple, tStr, ok_zs_get, ok_zs_remove, ok_zs_put, ok_zs_add, ok_zs_sum, ok_zs_not_records, ok_zs_not_an_operation, ok_zs_part, ok_zs_merge, ok_zs_not_a_nest, ok_zs_abort, ok_zs_records, ok_zs_operation, ok_zs_nest, ok_z14, ok_zs_stop, ok_zs_Part, gl_KEYS, gl_HIGHEST, gl_ROUND, gl_ITEMS, gl_DEEP, gl_ENDS]
    obtain ⟨gs2, y2, e⟩ := kept_loop n k m V ih r acc gs (some (.tup [.str zs_part, .tup q.Ds, .str zs_abort])) (by omega) (by omega)
    refine ⟨gs2, y2, ?_⟩
    simp only [Ns.Ds, endS, forF, asgT, setS, List.set_cons_succ, List.set_cons_zero, step, e, Ns.kept, Bool.false_eq_true, if_false, List.nil_append]
theorem kept_eq (n : Nat) : ∀ (k : Nat) (r : Ns) (m : Mem), r.dep ≤ k → r.cnt ≤ 100 → (callL tb (n + 2 + k)).1 17 [.tup r.Ds] m = .ok (.loc m.len) (mx m [.lst (r.kept.map Op.D)] [])
  | k, r, m, hd, hc => by
    obtain ⟨gs2, y2, e⟩ := kept_loop n k m (some (.tup r.Ds)) (fun q m hq hc => by
      obtain ⟨k, rfl⟩ : ∃ j, k = j + 1 := ⟨k - 1, by omega⟩
      have en : n + 1 + (k + 1) = n + 2 + k := by omega
      rw [en]
      exact kept_eq n k q m (by omega) hc) r [] [] none hd (by simp; omega)
    simp only [List.map_nil, List.nil_append] at e
    have en : n + 2 + k = n + 1 + k + 1 := by omega
    rw [en, call_s (fd := f17) rfl]
    have nL : newL m [] = .ok (.loc m.len) (mx m [.lst []] []) := by rw [newL_ok (by decide), push_mx]
    have cp : clean m (.loc m.len) (m.push (.lst [])) = .ok (.loc m.len) (mx m [.lst []] []) := by
      rw [← push_mx]
      exact clean_pl _ _ rfl
    have cp2 : clean m (.loc m.len) (mx m [.lst []] []) = .ok (.loc m.len) (mx m [.lst []] []) := by
      rw [← push_mx]
      exact clean_pl _ _ rfl
    have hi : ∀ m, itOf .seq [.tup r.Ds] m = some (.fixed r.Ds) := fun _ => rfl
    have hr : ∀ b fu s m, forRun fu b (.nm 2) (.fixed r.Ds) s m = forF b (.nm 2) r.Ds s m := fun _ _ _ _ => rfl
    have ek : endR m (.ret (.loc m.len) (mx m (.lst (r.kept.map Op.D) :: gs2) [])) = .ok (.loc m.len) (mx m [.lst (r.kept.map Op.D)] []) := by
      have z := clean_mxG m [] (.lst (r.kept.map Op.D) :: gs2) [] 0 (.lst (r.kept.map Op.D)) (ops_nl r.kept) rfl (Nat.le_refl _)
      rw [mx_nil] at z
      exact z
    simp (decide := true) only [f17, nL, cp, cp2, sFor, hi, hr, e, ek, eq_self, decide_true, decide_false, runFn, evSs, evS, evE, evL, evO, evB, evAndB, evOrB, evT, evAnd, evOr, evTs, sSeq, sRet, sPass, sAsg, sExpr, sIf, sRaise, sSetIx, sAug, xCall, xOfT, xAnd, xOr, xBol, xTru, xNot, xPr, xMe, xCons, xNil, xVar, xChain, xCB, xC, xIte, xTup, xLst, xDic, xSl, xAt, xNoP, okTup, okLst, getS, setS, startS, Rs.bind, Rs.then, Rt.and, boolR, truthR, truthD, okBl, asgT, asgTs, gl_ct, call_ct, fu_ct, end_next, end_exc, end_bl, end_int, end_str, end_non, end_tup, clean_bl, clean_int, clean_str, clean_non, clean_tup, nl_non, nl_bl, nl_int, nl_str, nl_tup, nl_loc, nlL_nil, nlL_cons, Bool.and_true, Bool.true_and, Bool.and_false, Bool.false_and, Bool.or_true, Bool.or_false, Bool.true_or, Bool.false_or, Bool.not_true, Bool.not_false, List.length_cons, List.length_nil, List.map_cons, List.map_nil, List.cons_append, List.nil_append, List.getElem?_cons_zero, List.getElem?_cons_succ, List.set_cons_zero, List.set_cons_succ, Nat.reduceAdd, Int.reduceSub, Int.reduceNeg, Nat.reduceSub, Nat.reduceBEq, List.replicate_succ, List.replicate_zero, if_true, if_false, reduceIte, beq_self_eq_true, cln_self, q_le, q_lt, q_gt, q_ge, q_add, q_sub, q_neg, q_abs, q_int, q_bool, q_eqI, q_neI, q_ix0, q_ix1, q_ix2, q_lenT, q_isInt, q_isBool, q_isTuple, q_isStr, p_is, tyD, tInt, tBool, tTuple, tStr, ok_zs_get, ok_zs_remove, ok_zs_put, ok_zs_add, ok_zs_sum, ok_zs_not_records, ok_zs_not_an_operation, ok_zs_part, ok_zs_merge, ok_zs_not_a_nest, ok_zs_abort, ok_zs_records, ok_zs_operation, ok_zs_nest, ok_z14, ok_zs_stop, ok_zs_Part, gl_KEYS, gl_HIGHEST, gl_ROUND, gl_ITEMS, gl_DEEP, gl_ENDS]
theorem kept_ops_eq (n : Nat) (r : Ns) (hk : r.ok) (hc : r.cnt ≤ 40) (hd : r.dep ≤ 5) (m : Mem) : (callL tb (n + 8)).1 21 [.tup r.Ds] m = .ok (.tup (r.kept.map Op.D)) m := by
  have n1 := fun m => need_nest_eq n r hk hc hd m
  have k1 := fun m => kept_eq n 5 r m hd (by omega)
  rw [call_s (fd := f21) rfl]
  have tt := q_tupL (mx_get0 m [.lst (r.kept.map Op.D)] [])
  have et := fun (m' : Mem) => end_tup m m' (r.kept.map Op.D) (ops_nl r.kept)
  simp (decide := true) only [f21, n1, k1, tt, et, cln_mx0, cln_self, eq_self, decide_true, decide_false, runFn, evSs, evS, evE, evL, evO, evB, evAndB, evOrB, evT, evAnd, evOr, evTs, sSeq, sRet, sPass, sAsg, sExpr, sIf, sRaise, sSetIx, sAug, xCall, xOfT, xAnd, xOr, xBol, xTru, xNot, xPr, xMe, xCons, xNil, xVar, xChain, xCB, xC, xIte, xTup, xLst, xDic, xSl, xAt, xNoP, okTup, okLst, getS, setS, startS, Rs.bind, Rs.then, Rt.and, boolR, truthR, truthD, okBl, asgT, asgTs, gl_ct, call_ct, fu_ct, end_next, end_exc, end_bl, end_int, end_str, end_non, end_tup, clean_bl, clean_int, clean_str, clean_non, clean_tup, nl_non, nl_bl, nl_int, nl_str, nl_tup, nl_loc, nlL_nil, nlL_cons, Bool.and_true, Bool.true_and, Bool.and_false, Bool.false_and, Bool.or_true, Bool.or_false, Bool.true_or, Bool.false_or, Bool.not_true, Bool.not_false, List.length_cons, List.length_nil, List.map_cons, List.map_nil, List.cons_append, List.nil_append, List.getElem?_cons_zero, List.getElem?_cons_succ, List.set_cons_zero, List.set_cons_succ, Nat.reduceAdd, Int.reduceSub, Int.reduceNeg, Nat.reduceSub, Nat.reduceBEq, List.replicate_succ, List.replicate_zero, if_true, if_false, reduceIte, beq_self_eq_true, cln_self, q_le, q_lt, q_gt, q_ge, q_add, q_sub, q_neg, q_abs, q_int, q_bool, q_eqI, q_neI, q_ix0, q_ix1, q_ix2, q_lenT, q_isInt, q_isBool, q_isTuple, q_isStr, p_is, tyD, tInt, tBool, tTuple, tStr, ok_zs_get, ok_zs_remove, ok_zs_put, ok_zs_add, ok_zs_sum, ok_zs_not_records, ok_zs_not_an_operation, ok_zs_part, ok_zs_merge, ok_zs_not_a_nest, ok_zs_abort, ok_zs_records, ok_zs_operation, ok_zs_nest, ok_z14, ok_zs_stop, ok_zs_Part, gl_KEYS, gl_HIGHEST, gl_ROUND, gl_ITEMS, gl_DEEP, gl_ENDS]
theorem lkept_loop (n k : Nat) (V : Option D) (ih : ∀ (q : Ns) (m : Mem), q.dep + 1 ≤ k → q.cnt ≤ 100 → (callL tb (n + 1 + k)).1 33 [.tup q.Ds] m = .ok (.tup (q.kept.map Op.D)) m) :
    ∀ (r : Ns) (acc : List Op) (x2 : Option D) (m : Mem), r.dep ≤ k → r.cnt + acc.length ≤ 100 → ∃ (y2 : Option D),
      forF (evSs (Cn (n + 1 + k)) b33_0) (.nm 2) r.Ds [V, some (.tup (acc.map Op.D)), x2] m = .next [V, some (.tup ((acc ++ r.kept).map Op.D)), y2] m
  | .nil, acc, x2, m, _, _ => ⟨x2, by simp only [Ns.Ds, Ns.kept, List.append_nil]; rfl⟩
  | .op o r, acc, x2, m, hd, hc => by
    simp only [Ns.cnt] at hc
    obtain ⟨z, z1, z2⟩ := idx0_op o m
    have addT : prim .add [.tup (acc.map Op.D), .tup [o.D]] m = .ok (.tup (acc.map Op.D ++ [o.D])) m := by
      show okIf (decide ((acc.map Op.D).length + [o.D].length ≤ sizeLine)) _ m = _
      have : decide ((acc.map Op.D).length + [o.D].length ≤ sizeLine) = true := decide_eq_true (Nat.le_trans (show (acc.map Op.D).length + [o.D].length ≤ 200 by simp; omega) (by decide))
      rw [this]
      rfl
    have ea : acc.map Op.D ++ [o.D] = (acc ++ [o]).map Op.D := by simp
    rw [ea] at addT
    have ct := fun (m m' : Mem) => clean_tup m m' ((acc ++ [o]).map Op.D) (ops_nl _)
    have step : evSs (Cn (n + 1 + k)) b33_0 [V, some (.tup (acc.map Op.D)), some o.D] m = .next [V, some (.tup ((acc ++ [o]).map Op.D)), some o.D] m := by
      simp (decide := true) only [b33_0, z1, q_neS, z2, addT, ct, cln_self, eq_self, decide_true, decide_false, runFn, evSs, evS, evE, evL, evO, evB, evAndB, evOrB, evT, evAnd, evOr, evTs, sSeq, sRet, sPass, sAsg, sExpr, sIf, sRaise, sSetIx, sAug, xCall, xOfT, xAnd, xOr, xBol, xTru, xNot, xPr, xMe, xCons, xNil, xVar, xChain, xCB, xC, xIte, xTup, xLst, xDic, xSl, xAt, xNoP, okTup, okLst, getS, setS, startS, Rs.bind, Rs.then, Rt.and, boolR, truthR, truthD, okBl, asgT, asgTs, gl_ct, call_ct, fu_ct, end_next, end_exc, end_bl, end_int, end_str, end_non, end_tup, clean_bl, clean_int, clean_str, clean_non, clean_tup, nl_non, nl_bl, nl_int, nl_str, nl_tup, nl_loc, nlL_nil, nlL_cons, Bool.and_true, Bool.true_and, Bool.and_false, Bool.false_and, Bool.or_true, Bool.or_false, Bool.true_or, Bool.false_or, Bool.not_true, Bool.not_false, List.length_cons, List.length_nil, List.map_cons, List.map_nil, List.cons_append, List.nil_append, List.getElem?_cons_zero, List.getElem?_cons_succ, List.set_cons_zero, List.set_cons_succ, Nat.reduceAdd, Int.reduceSub, Int.reduceNeg, Nat.reduceSub, Nat.reduceBEq, List.replicate_succ, List.replicate_zero, if_true, if_false, reduceIte, beq_self_eq_true, cln_self, q_le, q_lt, q_gt, q_ge, q_add, q_sub, q_neg, q_abs, q_int, q_bool, q_eqI, q_neI, q_ix0, q_ix1, q_ix2, q_lenT, q_isInt, q_isBool, q_isTuple, q_isStr, p_is, tyD, tInt, tBool, tTuple, tStr, ok_zs_get, ok_zs_remove, ok_zs_put, ok_zs_add, ok_zs_sum, ok_zs_not_records, ok_zs_not_an_operation, ok_zs_part, ok_zs_merge, ok_zs_not_a_nest, ok_zs_abort, ok_zs_records, ok_zs_operation, ok_zs_nest, ok_z14, ok_zs_stop, ok_zs_Part, gl_KEYS, gl_HIGHEST, gl_ROUND, gl_ITEMS, gl_DEEP, gl_ENDS]
    obtain ⟨y2, e⟩ := lkept_loop n k V ih r (acc ++ [o]) (some o.D) m hd (by simp; omega)
    refine ⟨y2, ?_⟩
    simp only [Ns.Ds, forF, asgT, setS, List.set_cons_succ, List.set_cons_zero, step, e, Ns.kept, List.append_assoc, List.cons_append, List.nil_append]
  | .part q true r, acc, x2, m, hd, hc => by
    simp only [Ns.cnt] at hc
    simp only [Ns.dep] at hd
    have kl := kept_len q
    have c1 := fun m => ih q m (by omega) (by omega)
    have addT : prim .add [.tup (acc.map Op.D), .tup (q.kept.map Op.D)] m = .ok (.tup (acc.map Op.D ++ q.kept.map Op.D)) m := by
      show okIf (decide ((acc.map Op.D).length + (q.kept.map Op.D).length ≤ sizeLine)) _ m = _
      have : decide ((acc.map Op.D).length + (q.kept.map Op.D).length ≤ sizeLine) = true := decide_eq_true (Nat.le_trans (show (acc.map Op.D).length + (q.kept.map Op.D).length ≤ 200 by rw [List.length_map, List.length_map]; omega) (by decide))
      rw [this]
      rfl
    rw [← List.map_append] at addT
    have ct := fun (m m' : Mem) => clean_tup m m' ((acc ++ q.kept).map Op.D) (ops_nl _)
    have step : evSs (Cn (n + 1 + k)) b33_0 [V, some (.tup (acc.map Op.D)), some (.tup [.str zs_part, .tup q.Ds, .str zs_merge])] m = .next [V, some (.tup ((acc ++ q.kept).map Op.D)), some (.tup [.str zs_part, .tup q.Ds, .str zs_merge])] m := by
      simp (decide := true) only [b33_0, q_neS, q_eqS, c1, addT, ct, cln_self, eq_self, decide_true, decide_false, runFn, evSs, evS, evE, evL, evO, evB, evAndB, evOrB, evT, evAnd, evOr, evTs, sSeq, sRet, sPass, sAsg, sExpr, sIf, sRaise, sSetIx, sAug, xCall, xOfT, xAnd, xOr, xBol, xTru, xNot, xPr, xMe, xCons, xNil, xVar, xChain, xCB, xC, xIte, xTup, xLst, xDic, xSl, xAt, xNoP, okTup, okLst, getS, setS, startS, Rs.bind, Rs.then, Rt.and, boolR, truthR, truthD, okBl, asgT, asgTs, gl_ct, call_ct, fu_ct, end_next, end_exc, end_bl, end_int, end_str, end_non, end_tup, clean_bl, clean_int, clean_str, clean_non, clean_tup, nl_non, nl_bl, nl_int, nl_str, nl_tup, nl_loc, nlL_nil, nlL_cons, Bool.and_true, Bool.true_and, Bool.and_false, Bool.false_and, Bool.or_true, Bool.or_false, Bool.true_or, Bool.false_or, Bool.not_true, Bool.not_false, List.length_cons, List.length_nil, List.map_cons, List.map_nil, List.cons_append, List.nil_append, List.getElem?_cons_zero, List.getElem?_cons_succ, List.set_cons_zero, List.set_cons_succ, Nat.reduceAdd, Int.reduceSub, Int.reduceNeg, Nat.reduceSub, Nat.reduceBEq, List.replicate_succ, List.replicate_zero, if_true, if_false, reduceIte, beq_self_eq_true, cln_self, q_le, q_lt, q_gt, q_ge, q_add, q_sub, q_neg, q_abs, q_int, q_bool, q_eqI, q_neI, q_ix0, q_ix1, q_ix2, q_lenT, q_isInt, q_isBool, q_isTuple, q_isStr, p_is, tyD, tInt, tBool, tTuple, tStr, ok_zs_get, ok_zs_remove, ok_zs_put, ok_zs_add, ok_zs_sum, ok_zs_not_records, ok_zs_not_an_operation, ok_zs_part, ok_zs_merge, ok_zs_not_a_nest, ok_zs_abort, ok_zs_records, ok_zs_operation, ok_zs_nest, ok_z14, ok_zs_stop, ok_zs_Part, gl_KEYS, gl_HIGHEST, gl_ROUND, gl_ITEMS, gl_DEEP, gl_ENDS]
    obtain ⟨y2, e⟩ := lkept_loop n k V ih r (acc ++ q.kept) (some (.tup [.str zs_part, .tup q.Ds, .str zs_merge])) m (by omega) (by rw [List.length_append]; omega)
    refine ⟨y2, ?_⟩
    simp only [Ns.Ds, endS, forF, asgT, setS, List.set_cons_succ, List.set_cons_zero, step, e, Ns.kept, if_true, List.append_assoc]
  | .part q false r, acc, x2, m, hd, hc => by
    simp only [Ns.cnt] at hc
    simp only [Ns.dep] at hd
    have step : evSs (Cn (n + 1 + k)) b33_0 [V, some (.tup (acc.map Op.D)), some (.tup [.str zs_part, .tup q.Ds, .str zs_abort])] m = .next [V, some (.tup (acc.map Op.D)), some (.tup [.str zs_part, .tup q.Ds, .str zs_abort])] m := by
      simp (decide := true) only [b33_0, q_neS, q_eqS, cln_self, eq_self, decide_true, decide_false, runFn, evSs, evS, evE, evL, evO, evB, evAndB, evOrB, evT, evAnd, evOr, evTs, sSeq, sRet, sPass, sAsg, sExpr, sIf, sRaise, sSetIx, sAug, xCall, xOfT, xAnd, xOr, xBol, xTru, xNot, xPr, xMe, xCons, xNil, xVar, xChain, xCB, xC, xIte, xTup, xLst, xDic, xSl, xAt, xNoP, okTup, okLst, getS, setS, startS, Rs.bind, Rs.then, Rt.and, boolR, truthR, truthD, okBl, asgT, asgTs, gl_ct, call_ct, fu_ct, end_next, end_exc, end_bl, end_int, end_str, end_non, end_tup, clean_bl, clean_int, clean_str, clean_non, clean_tup, nl_non, nl_bl, nl_int, nl_str, nl_tup, nl_loc, nlL_nil, nlL_cons, Bool.and_true, Bool.true_and, Bool.and_false, Bool.false_and, Bool.or_true, Bool.or_false, Bool.true_or, Bool.false_or, Bool.not_true, Bool.not_false, List.length_cons, List.length_nil, List.map_cons, List.map_nil, List.cons_append, List.nil_append, List.getElem?_cons_zero, List.getElem?_cons_succ, List.set_cons_zero, List.set_cons_succ, Nat.reduceAdd, Int.reduceSub, Int.reduceNeg, Nat.reduceSub, Nat.reduceBEq, List.replicate_succ, List.replicate_zero, if_true, if_false, reduceIte, beq_self_eq_true, cln_self, q_le, q_lt, q_gt, q_ge, q_add, q_sub, q_neg, q_abs, q_int, q_bool, q_eqI, q_neI, q_ix0, q_ix1, q_ix2, q_lenT, q_isInt, q_isBool, q_isTuple, q_isStr, p_is, tyD, tInt, tBool, tTuple, tStr, ok_zs_get, ok_zs_remove, ok_zs_put, ok_zs_add, ok_zs_sum, ok_zs_not_records, ok_zs_not_an_operation, ok_zs_part, ok_zs_merge, ok_zs_not_a_nest, ok_zs_abort, ok_zs_records, ok_zs_operation, ok_zs_nest, ok_z14, ok_zs_stop, ok_zs_Part, gl_KEYS, gl_HIGHEST, gl_ROUND, gl_ITEMS, gl_DEEP, gl_ENDS]
    obtain ⟨y2, e⟩ := lkept_loop n k V ih r acc (some (.tup [.str zs_part, .tup q.Ds, .str zs_abort])) m (by omega) (by omega)
    refine ⟨y2, ?_⟩
    simp only [Ns.Ds, endS, forF, asgT, setS, List.set_cons_succ, List.set_cons_zero, step, e, Ns.kept, Bool.false_eq_true, if_false, List.nil_append]
theorem lkept_eq (n : Nat) : ∀ (k : Nat) (r : Ns) (m : Mem), r.dep ≤ k → r.cnt ≤ 100 → (callL tb (n + 2 + k)).1 33 [.tup r.Ds] m = .ok (.tup (r.kept.map Op.D)) m
  | k, r, m, hd, hc => by
    obtain ⟨y2, e⟩ := lkept_loop n k (some (.tup r.Ds)) (fun q m hq hc => by
      obtain ⟨k, rfl⟩ : ∃ j, k = j + 1 := ⟨k - 1, by omega⟩
      have en : n + 1 + (k + 1) = n + 2 + k := by omega
      rw [en]
      exact lkept_eq n k q m (by omega) hc) r [] none m hd (by simp; omega)
    simp only [List.map_nil, List.nil_append] at e
    have en : n + 2 + k = n + 1 + k + 1 := by omega
    rw [en, call_s (fd := f33) rfl]
    have hi : ∀ m, itOf .seq [.tup r.Ds] m = some (.fixed r.Ds) := fun _ => rfl
    have hr : ∀ b fu s m, forRun fu b (.nm 2) (.fixed r.Ds) s m = forF b (.nm 2) r.Ds s m := fun _ _ _ _ => rfl
    have ct := fun (m m' : Mem) => clean_tup m m' [] rfl
    have et := fun (m' : Mem) => end_tup m m' (r.kept.map Op.D) (ops_nl r.kept)
    simp (decide := true) only [f33, ct, sFor, hi, hr, e, et, cln_self, eq_self, decide_true, decide_false, runFn, evSs, evS, evE, evL, evO, evB, evAndB, evOrB, evT, evAnd, evOr, evTs, sSeq, sRet, sPass, sAsg, sExpr, sIf, sRaise, sSetIx, sAug, xCall, xOfT, xAnd, xOr, xBol, xTru, xNot, xPr, xMe, xCons, xNil, xVar, xChain, xCB, xC, xIte, xTup, xLst, xDic, xSl, xAt, xNoP, okTup, okLst, getS, setS, startS, Rs.bind, Rs.then, Rt.and, boolR, truthR, truthD, okBl, asgT, asgTs, gl_ct, call_ct, fu_ct, end_next, end_exc, end_bl, end_int, end_str, end_non, end_tup, clean_bl, clean_int, clean_str, clean_non, clean_tup, nl_non, nl_bl, nl_int, nl_str, nl_tup, nl_loc, nlL_nil, nlL_cons, Bool.and_true, Bool.true_and, Bool.and_false, Bool.false_and, Bool.or_true, Bool.or_false, Bool.true_or, Bool.false_or, Bool.not_true, Bool.not_false, List.length_cons, List.length_nil, List.map_cons, List.map_nil, List.cons_append, List.nil_append, List.getElem?_cons_zero, List.getElem?_cons_succ, List.set_cons_zero, List.set_cons_succ, Nat.reduceAdd, Int.reduceSub, Int.reduceNeg, Nat.reduceSub, Nat.reduceBEq, List.replicate_succ, List.replicate_zero, if_true, if_false, reduceIte, beq_self_eq_true, cln_self, q_le, q_lt, q_gt, q_ge, q_add, q_sub, q_neg, q_abs, q_int, q_bool, q_eqI, q_neI, q_ix0, q_ix1, q_ix2, q_lenT, q_isInt, q_isBool, q_isTuple, q_isStr, p_is, tyD, tInt, tBool, tTuple, tStr, ok_zs_get, ok_zs_remove, ok_zs_put, ok_zs_add, ok_zs_sum, ok_zs_not_records, ok_zs_not_an_operation, ok_zs_part, ok_zs_merge, ok_zs_not_a_nest, ok_zs_abort, ok_zs_records, ok_zs_operation, ok_zs_nest, ok_z14, ok_zs_stop, ok_zs_Part, gl_KEYS, gl_HIGHEST, gl_ROUND, gl_ITEMS, gl_DEEP, gl_ENDS]
end T02

set_option Elab.async false
set_option linter.all false
set_option maxRecDepth 100000
set_option maxHeartbeats 1000000
namespace T02
open NV PySem
/-! k02: the law -/
abbrev Cm (n : Nat) : Ct := ctOf tb (callL tb n).1 (callL tb n).2 fun _ => .stuck
theorem told_m (n : Nat) (m : Mem) (k : Nat) (l : List (Int × Int)) (hk : m.get k = some (.dic (dk l))) (hz : l.length ≤ 1000) : (callL tb (n + 1)).1 26 [.loc k] m = .ok (recD (isort ltP l)) m := by
  rw [call_s (fd := f26) rfl]
  have h1 := q_itemsD hk hz
  have h2 := q_sortP (push_get m (.lst (l.map pt))) hz
  have h3 := q_tupL (push_get (m.push (.lst (l.map pt))) (.lst ((isort ltP l).map pt)))
  simp (decide := true) only [f26, h1, h2, h3, end_tup _ _ _ (pt_nl _), cln_push2, eq_self, decide_true, decide_false, runFn, evSs, evS, evE, evL, evO, evB, evAndB, evOrB, evT, evAnd, evOr, evTs, sSeq, sRet, sPass, sAsg, sExpr, sIf, sRaise, sSetIx, sAug, xCall, xOfT, xAnd, xOr, xBol, xTru, xNot, xPr, xMe, xCons, xNil, xVar, xChain, xCB, xC, xIte, xTup, xLst, xDic, xSl, xAt, xNoP, okTup, okLst, getS, setS, startS, Rs.bind, Rs.then, Rt.and, boolR, truthR, truthD, okBl, asgT, asgTs, gl_ct, call_ct, fu_ct, end_next, end_exc, end_bl, end_int, end_str, end_non, end_tup, clean_bl, clean_int, clean_str, clean_non, clean_tup, nl_non, nl_bl, nl_int, nl_str, nl_tup, nl_loc, nlL_nil, nlL_cons, Bool.and_true, Bool.true_and, Bool.and_false, Bool.false_and, Bool.or_true, Bool.or_false, Bool.true_or, Bool.false_or, Bool.not_true, Bool.not_false, List.length_cons, List.length_nil, List.map_cons, List.map_nil, List.cons_append, List.nil_append, List.getElem?_cons_zero, List.getElem?_cons_succ, List.set_cons_zero, List.set_cons_succ, Nat.reduceAdd, Int.reduceSub, Int.reduceNeg, Nat.reduceSub, Nat.reduceBEq, List.replicate_succ, List.replicate_zero, if_true, if_false, reduceIte, beq_self_eq_true, cln_self, q_le, q_lt, q_gt, q_ge, q_add, q_sub, q_neg, q_abs, q_int, q_bool, q_eqI, q_neI, q_ix0, q_ix1, q_ix2, q_lenT, q_isInt, q_isBool, q_isTuple, q_isStr, p_is, tyD, tInt, tBool, tTuple, tStr, ok_zs_get, ok_zs_remove, ok_zs_put, ok_zs_add, ok_zs_sum, ok_zs_not_records, ok_zs_not_an_operation, ok_zs_part, ok_zs_merge, ok_zs_not_a_nest, ok_zs_abort, ok_zs_records, ok_zs_operation, ok_zs_nest, ok_z14, ok_zs_stop, ok_zs_Part, gl_KEYS, gl_HIGHEST, gl_ROUND, gl_ITEMS, gl_DEEP, gl_ENDS]
  rfl
theorem cm_clnN (c d : Cup) (os : List Ob) : cln (cm c [] []) (cm d os []) = cm d [] [] := by
  unfold cln cm Mem.take Mem.len
  rw [newW_self]
  simp
theorem reprN {L : List (Int × Int)} {l : Ns} (h : Can L) (ho : l.ok) (hc : l.cnt ≤ 40) (hd : l.dep ≤ 5) (m : Mem) : prim .repr [.tup [recD (l.res L).1, .tup (l.res L).2]] m = .ok (.str (pyD (.tup [recD (l.res L).1, .tup (l.res L).2])).shown) m := by
  obtain ⟨r1, r2, r3⟩ := sm_rec (res_can l L h ho)
  have hl := can_len64 (res_can l L h ho)
  obtain ⟨s1, s2, s3⟩ := res_sm l L h ho
  refine q_repr _ m ?_ ?_ ?_
  · simp [smB, smBs, r1, s1]
  · simp only [dpD, dpDs]
    omega
  · simp only [bkD, bkDs, r3]
    omega
theorem fold_loop (n : Nat) (m : Mem) (x0 x1 x2 x3 x4 x5 x6 x7 : Option D) (T : Sl) : ∀ (os : List Op) (L : List (Int × Int)) (x9 : Option D), Can L → (∀ o ∈ os, o.ok) → ∃ y9 : Option D,
    forF (evSs (Cm (n + 5)) b35_0) (.nm 9) (os.map Op.D) (x0 :: x1 :: x2 :: x3 :: x4 :: x5 :: x6 :: x7 :: some (recD L) :: x9 :: T) m = .next (x0 :: x1 :: x2 :: x3 :: x4 :: x5 :: x6 :: x7 :: some (recD (foldO os L)) :: y9 :: T) m
  | [], L, x9, _, _ => ⟨x9, rfl⟩
  | o :: os, L, x9, h, ho => by
    have d1 := fun m => do_op_eq n L o h (can_len64 h) (ho o (List.mem_cons_self ..)) m
    have cr := fun (l : List (Int × Int)) (m m' : Mem) => clean_nl (m := m) (m1 := m') (nl_recD l)
    obtain ⟨y9, e⟩ := fold_loop n m x0 x1 x2 x3 x4 x5 x6 x7 T os (stp L o).1 (some o.D) (stp_can h (ho o (List.mem_cons_self ..))) fun p hp => ho p (List.mem_cons_of_mem _ hp)
    refine ⟨y9, ?_⟩
    have step : evSs (Cm (n + 5)) b35_0 (x0 :: x1 :: x2 :: x3 :: x4 :: x5 :: x6 :: x7 :: some (recD L) :: some o.D :: T) m = .next (x0 :: x1 :: x2 :: x3 :: x4 :: x5 :: x6 :: x7 :: some (recD (stp L o).1) :: some o.D :: T) m := by
      simp (decide := true) only [b35_0, d1, cr, cln_self, eq_self, decide_true, decide_false, runFn, evSs, evS, evE, evL, evO, evB, evAndB, evOrB, evT, evAnd, evOr, evTs, sSeq, sRet, sPass, sAsg, sExpr, sIf, sRaise, sSetIx, sAug, xCall, xOfT, xAnd, xOr, xBol, xTru, xNot, xPr, xMe, xCons, xNil, xVar, xChain, xCB, xC, xIte, xTup, xLst, xDic, xSl, xAt, xNoP, okTup, okLst, getS, setS, startS, Rs.bind, Rs.then, Rt.and, boolR, truthR, truthD, okBl, asgT, asgTs, gl_ct, call_ct, fu_ct, end_next, end_exc, end_bl, end_int, end_str, end_non, end_tup, clean_bl, clean_int, clean_str, clean_non, clean_tup, nl_non, nl_bl, nl_int, nl_str, nl_tup, nl_loc, nlL_nil, nlL_cons, Bool.and_true, Bool.true_and, Bool.and_false, Bool.false_and, Bool.or_true, Bool.or_false, Bool.true_or, Bool.false_or, Bool.not_true, Bool.not_false, List.length_cons, List.length_nil, List.map_cons, List.map_nil, List.cons_append, List.nil_append, List.getElem?_cons_zero, List.getElem?_cons_succ, List.set_cons_zero, List.set_cons_succ, Nat.reduceAdd, Int.reduceSub, Int.reduceNeg, Nat.reduceSub, Nat.reduceBEq, List.replicate_succ, List.replicate_zero, if_true, if_false, reduceIte, beq_self_eq_true, cln_self, q_le, q_lt, q_gt, q_ge, q_add, q_sub, q_neg, q_abs, q_int, q_bool, q_eqI, q_neI, q_ix0, q_ix1, q_ix2, q_lenT, q_isInt, q_isBool, q_isTuple, q_isStr, p_is, tyD, tInt, tBool, tTuple, tStr, ok_zs_get, ok_zs_remove, ok_zs_put, ok_zs_add, ok_zs_sum, ok_zs_not_records, ok_zs_not_an_operation, ok_zs_part, ok_zs_merge, ok_zs_not_a_nest, ok_zs_abort, ok_zs_records, ok_zs_operation, ok_zs_nest, ok_z14, ok_zs_stop, ok_zs_Part, gl_KEYS, gl_HIGHEST, gl_ROUND, gl_ITEMS, gl_DEEP, gl_ENDS]
    simp only [List.map_cons, forF, asgT, setS, List.set_cons_succ, List.set_cons_zero, step, e, foldO]
theorem turn (n : Nat) (c : Cup) (ns : List Int) (i : Int) : ∃ c' : Cup,
    evSs (Cm (n + 12)) [.sweep [3, 4, 5, 6, 7, 8, 9] b35_1] [some (.rol ns), some (.loc 0), some (.int i), none, none, none, none, none, none, none, none, none, none, none, none, none] (cm c [] []) =
      .next [some (.rol ns), some (.loc 0), some (.int i), none, none, none, none, none, none, none, none, none, none, none, none, none] (cm c' [] []) := by
  have k6 : (0 : Int) < 6 ∧ (6 : Int) < 1073741824 := by decide
  have k14 : (0 : Int) < 14 ∧ (14 : Int) < 1073741824 := by decide
  have r6 := roll_eq (n + 11) c [] [] 6 k6
  have b1 := c.r_ge k6.1
  have b2 := c.r_lt k6.1
  obtain ⟨c3, l, hg, hz, e3⟩ := law_recs (n + 9) (c.nx 6) [] [] (c.r 6) 5 (by decide) (by omega)
  simp only [List.nil_append, List.length_nil, Nat.zero_add] at e3
  have r14 := roll_eq (n + 11) c3 [.dic (dk l)] [] 14 k14
  have b3 := c3.r_ge k14.1
  have b4 := c3.r_lt k14.1
  generalize hq : c3.r 14 = q at r14 b3 b4
  obtain ⟨q, rfl⟩ : ∃ j : Nat, q = (j : Int) := ⟨q.toNat, by omega⟩
  obtain ⟨r, c4, ro, rc, rd, e4⟩ := law_nest_eq n [.dic (dk l)] [] 4 (by decide) (c3.nx 14) q (by omega)
  have hm1 : (cm c4 [.dic (dk l)] []).get 1 = some (.dic (dk l)) := rfl
  obtain ⟨os, j, e5, e6⟩ := ldone_eq (n + 6) 4 r l (cm c4 [.dic (dk l)] []) 1 rd hg ro (by omega) (by omega) hm1
  have hcan := can_of hg
  have hlen := can_len hg hz
  obtain ⟨s1, s2, s3⟩ := dres_res r l hg ro
  have dl := dres_len r l
  have t1 := told_m (n + 11) (mx (cm c4 [.dic (dk l)] []) os []) 1 l (mx_old hm1 os []) (by omega)
  have t2 := told_m (n + 11) (mx (cm c4 [.dic (dk l)] []) os []) j (r.dres l).1 e6 (by omega)
  rw [s1] at t2
  rw [s2] at e5
  have cl : cln (cm c [] []) (mx (cm c4 [.dic (dk l)] []) os []) = cm c4 [] [] := by
    rw [mx_cm]
    exact cm_clnN c c4 _
  generalize mx (cm c4 [.dic (dk l)] []) os [] = m3 at e5 e6 t1 t2 cl
  generalize isort ltP l = L at e5 t1 t2 hcan hlen
  have iN := fun m => is_nest_eq (n + 5) r ro (by omega) (by omega) m
  have dN := fun m => do_nest_eq (n + 2) r L hcan ro (by omega) (by omega) m
  have kO := fun m => kept_ops_eq (n + 4) r ro (by omega) (by omega) m
  have kL := fun m => lkept_eq (n + 6) 4 r m rd (by omega)
  have rp := fun m => reprN hcan ro (by omega) (by omega) m
  have cc := cc_ops r.kept
  have n1 := fun m => q_neSelf (r.kept.map Op.D) m cc.1 (by omega)
  have cp := cc_pts (r.res L).1
  have n2 : ∀ m, prim .ne [recD (r.res L).1, recD (r.res L).1] m = .ok (.bl false) m := fun m => q_neSelf ((r.res L).1.map pt) m cp.1 (by omega)
  have nb : ∀ m, prim .notB [.bl true, .bl true] m = .ok (.bl false) m := fun _ => rfl
  have ct1 : ∀ (a : Nat) (d : D) (m m' : Mem), clean m (.tup [.loc a, d]) m' = .ok (.tup [.loc a, d]) m' := fun a d m m' => by
    unfold clean
    have : D.nl (.tup [.loc a, d]) = false := by simp [D.nl, D.nlL]
    rw [this]
  have ct2 := fun (m m' : Mem) => clean_tup m m' [.tup (r.kept.map Op.D), recD L] (by simp only [nlL_cons, nl_tup, ops_nl, nl_recD, nlL_nil, Bool.and_true])
  have fl : ∀ (x9 : Option D), ∃ y9 : Option D, forF (evSs (Cm (n + 12)) b35_0) (.nm 9) (r.kept.map Op.D) [some (.rol ns), some (.loc 0), some (.int i), some (.loc 1), some (.tup r.Ds), some (.loc j), some (.tup (r.res L).2), some (.tup (r.kept.map Op.D)), some (recD L), x9, none, none, none, none, none, none] m3 =
      .next [some (.rol ns), some (.loc 0), some (.int i), some (.loc 1), some (.tup r.Ds), some (.loc j), some (.tup (r.res L).2), some (.tup (r.kept.map Op.D)), some (recD (r.res L).1), y9, none, none, none, none, none, none] m3 := fun x9 => by
    obtain ⟨y9, e⟩ := fold_loop (n + 7) m3 (some (.rol ns)) (some (.loc 0)) (some (.int i)) (some (.loc 1)) (some (.tup r.Ds)) (some (.loc j)) (some (.tup (r.res L).2)) (some (.tup (r.kept.map Op.D))) [none, none, none, none, none, none] r.kept L x9 hcan (kept_ok r ro)
    rw [kept_res] at e
    exact ⟨y9, e⟩
  obtain ⟨y9, fl⟩ := fl none
  have hi : ∀ m, itOf .seq [.tup (r.kept.map Op.D)] m = some (.fixed (r.kept.map Op.D)) := fun _ => rfl
  have hr : ∀ b fu s m, forRun fu b (.nm 9) (.fixed (r.kept.map Op.D)) s m = forF b (.nm 9) (r.kept.map Op.D) s m := fun _ _ _ _ => rfl
  refine ⟨c4, ?_⟩
  have c44 : (4 : Int) = ((4 : Nat) : Int) := rfl
  have e4' : (callL tb (n + 12)).1 30 [.loc 0, .int q, .int 5, .int 4] (cm (c3.nx 14) [.dic (dk l)] []) = .ok (.tup r.Ds) (cm c4 [.dic (dk l)] []) := e4
  simp (decide := true) only [b35_1, sSweep, sweepR, wipeS, belSl, D.belB, r6, e3, r14, e4', e5, t1, t2, iN, dN, kO, kL, rp, n1, n2, nb, ct1, ct2, sFor, hi, hr, fl, cl, cm_cln, cln_self, q_neS, eq_self, decide_true, decide_false, runFn, evSs, evS, evE, evL, evO, evB, evAndB, evOrB, evT, evAnd, evOr, evTs, sSeq, sRet, sPass, sAsg, sExpr, sIf, sRaise, sSetIx, sAug, xCall, xOfT, xAnd, xOr, xBol, xTru, xNot, xPr, xMe, xCons, xNil, xVar, xChain, xCB, xC, xIte, xTup, xLst, xDic, xSl, xAt, xNoP, okTup, okLst, getS, setS, startS, Rs.bind, Rs.then, Rt.and, boolR, truthR, truthD, okBl, asgT, asgTs, gl_ct, call_ct, fu_ct, end_next, end_exc, end_bl, end_int, end_str, end_non, end_tup, clean_bl, clean_int, clean_str, clean_non, clean_tup, nl_non, nl_bl, nl_int, nl_str, nl_tup, nl_loc, nlL_nil, nlL_cons, Bool.and_true, Bool.true_and, Bool.and_false, Bool.false_and, Bool.or_true, Bool.or_false, Bool.true_or, Bool.false_or, Bool.not_true, Bool.not_false, List.length_cons, List.length_nil, List.map_cons, List.map_nil, List.cons_append, List.nil_append, List.getElem?_cons_zero, List.getElem?_cons_succ, List.set_cons_zero, List.set_cons_succ, Nat.reduceAdd, Int.reduceSub, Int.reduceNeg, Nat.reduceSub, Nat.reduceBEq, List.replicate_succ, List.replicate_zero, if_true, if_false, reduceIte, beq_self_eq_true, cln_self, q_le, q_lt, q_gt, q_ge, q_add, q_sub, q_neg, q_abs, q_int, q_bool, q_eqI, q_neI, q_ix0, q_ix1, q_ix2, q_lenT, q_isInt, q_isBool, q_isTuple, q_isStr, p_is, tyD, tInt, tBool, tTuple, tStr, ok_zs_get, ok_zs_remove, ok_zs_put, ok_zs_add, ok_zs_sum, ok_zs_not_records, ok_zs_not_an_operation, ok_zs_part, ok_zs_merge, ok_zs_not_a_nest, ok_zs_abort, ok_zs_records, ok_zs_operation, ok_zs_nest, ok_z14, ok_zs_stop, ok_zs_Part, gl_KEYS, gl_HIGHEST, gl_ROUND, gl_ITEMS, gl_DEEP, gl_ENDS]
  rfl
theorem law_loop (n : Nat) (ns : List Int) : ∀ (j i : Nat) (c : Cup) (x : Option D), ∃ (c' : Cup) (y : Option D), ((j = 0 ∧ y = x) ∨ ∃ v, y = some (.int v)) ∧
    forF (evSs (Cm (n + 12)) [.sweep [3, 4, 5, 6, 7, 8, 9] b35_1]) (.nm 2) (rngL 0 1 i j) [some (.rol ns), some (.loc 0), x, none, none, none, none, none, none, none, none, none, none, none, none, none] (cm c [] []) =
      .next [some (.rol ns), some (.loc 0), y, none, none, none, none, none, none, none, none, none, none, none, none, none] (cm c' [] [])
  | 0, i, c, x => ⟨c, x, .inl ⟨rfl, rfl⟩, rfl⟩
  | j + 1, i, c, x => by
    obtain ⟨c1, e1⟩ := turn n c ns (0 + (i : Nat) * 1)
    obtain ⟨c2, y, hy, e2⟩ := law_loop n ns j (i + 1) c1 (some (.int (0 + (i : Nat) * 1)))
    refine ⟨c2, y, .inr (hy.elim (fun z => ⟨_, z.2⟩) id), ?_⟩
    unfold rngL forF
    simp only [asgT, setS, List.set_cons_succ, List.set_cons_zero, e1]
    exact e2
end T02

set_option Elab.async false
set_option linter.all false
set_option maxRecDepth 100000
set_option maxHeartbeats 1000000
namespace T02
open NV PySem
/-! k02: the fixed part of the law -/
def retB : Rt → Bool
  | .ret (.bl b) _ => b
  | _ => false
def od0 : D := .tup []
def od1 : D := .tup [.tup [.str zs_get, .int (1)], .tup [.str zs_get, .int (1)], .tup [.str zs_get, .int (1)], .tup [.str zs_get, .int (1)], .tup [.str zs_get, .int (1)], .tup [.str zs_get, .int (1)], .tup [.str zs_get, .int (1)], .tup [.str zs_get, .int (1)], .tup [.str zs_get, .int (1)], .tup [.str zs_get, .int (1)], .tup [.str zs_get, .int (1)], .tup [.str zs_get, .int (1)], .tup [.str zs_get, .int (1)], .tup [.str zs_get, .int (1)], .tup [.str zs_get, .int (1)], .tup [.str zs_get, .int (1)], .tup [.str zs_get, .int (1)], .tup [.str zs_get, .int (1)], .tup [.str zs_get, .int (1)], .tup [.str zs_get, .int (1)], .tup [.str zs_get, .int (1)], .tup [.str zs_get, .int (1)], .tup [.str zs_get, .int (1)], .tup [.str zs_get, .int (1)], .tup [.str zs_get, .int (1)], .tup [.str zs_get, .int (1)], .tup [.str zs_get, .int (1)], .tup [.str zs_get, .int (1)], .tup [.str zs_get, .int (1)], .tup [.str zs_get, .int (1)], .tup [.str zs_get, .int (1)], .tup [.str zs_get, .int (1)], .tup [.str zs_get, .int (1)], .tup [.str zs_get, .int (1)], .tup [.str zs_get, .int (1)], .tup [.str zs_get, .int (1)], .tup [.str zs_get, .int (1)], .tup [.str zs_get, .int (1)], .tup [.str zs_get, .int (1)], .tup [.str zs_get, .int (1)]]
def od2 : D := .tup [.tup [.str zs_part, .tup [.tup [.str zs_get, .int (1)], .tup [.str zs_get, .int (1)], .tup [.str zs_get, .int (1)], .tup [.str zs_get, .int (1)], .tup [.str zs_get, .int (1)], .tup [.str zs_get, .int (1)], .tup [.str zs_get, .int (1)], .tup [.str zs_get, .int (1)], .tup [.str zs_get, .int (1)], .tup [.str zs_get, .int (1)], .tup [.str zs_get, .int (1)], .tup [.str zs_get, .int (1)], .tup [.str zs_get, .int (1)], .tup [.str zs_get, .int (1)], .tup [.str zs_get, .int (1)], .tup [.str zs_get, .int (1)], .tup [.str zs_get, .int (1)], .tup [.str zs_get, .int (1)], .tup [.str zs_get, .int (1)], .tup [.str zs_get, .int (1)], .tup [.str zs_get, .int (1)], .tup [.str zs_get, .int (1)], .tup [.str zs_get, .int (1)], .tup [.str zs_get, .int (1)], .tup [.str zs_get, .int (1)], .tup [.str zs_get, .int (1)], .tup [.str zs_get, .int (1)], .tup [.str zs_get, .int (1)], .tup [.str zs_get, .int (1)], .tup [.str zs_get, .int (1)], .tup [.str zs_get, .int (1)], .tup [.str zs_get, .int (1)], .tup [.str zs_get, .int (1)], .tup [.str zs_get, .int (1)], .tup [.str zs_get, .int (1)], .tup [.str zs_get, .int (1)], .tup [.str zs_get, .int (1)], .tup [.str zs_get, .int (1)], .tup [.str zs_get, .int (1)]], .str zs_abort]]
def od3 : D := .tup [.tup [.str zs_part, .tup [.tup [.str zs_part, .tup [.tup [.str zs_part, .tup [.tup [.str zs_part, .tup [.tup [.str zs_part, .tup [], .str zs_merge]], .str zs_merge]], .str zs_merge]], .str zs_merge]], .str zs_merge]]
def od4 : D := .tup [.tup [.str zs_part, .tup [.tup [.str zs_part, .tup [.tup [.str zs_part, .tup [.tup [.str zs_part, .tup [.tup [.str zs_part, .tup [], .str zs_merge]], .str zs_merge]], .str zs_merge]], .str zs_merge]], .str zs_abort]]
def ob1 : Ob := .lst [od0, od1, od2, od3, od4]
def od5 : D := .tup [.tup [.str zs_part, .tup [.tup [.str zs_get, .int (1)], .tup [.str zs_get, .int (1)], .tup [.str zs_get, .int (1)], .tup [.str zs_get, .int (1)], .tup [.str zs_get, .int (1)], .tup [.str zs_get, .int (1)], .tup [.str zs_get, .int (1)], .tup [.str zs_get, .int (1)], .tup [.str zs_get, .int (1)], .tup [.str zs_get, .int (1)], .tup [.str zs_get, .int (1)], .tup [.str zs_get, .int (1)], .tup [.str zs_get, .int (1)], .tup [.str zs_get, .int (1)], .tup [.str zs_get, .int (1)], .tup [.str zs_get, .int (1)], .tup [.str zs_get, .int (1)], .tup [.str zs_get, .int (1)], .tup [.str zs_get, .int (1)]], .str zs_merge], .tup [.str zs_part, .tup [.tup [.str zs_get, .int (1)], .tup [.str zs_get, .int (1)], .tup [.str zs_get, .int (1)], .tup [.str zs_get, .int (1)], .tup [.str zs_get, .int (1)], .tup [.str zs_get, .int (1)], .tup [.str zs_get, .int (1)], .tup [.str zs_get, .int (1)], .tup [.str zs_get, .int (1)], .tup [.str zs_get, .int (1)], .tup [.str zs_get, .int (1)], .tup [.str zs_get, .int (1)], .tup [.str zs_get, .int (1)], .tup [.str zs_get, .int (1)], .tup [.str zs_get, .int (1)], .tup [.str zs_get, .int (1)], .tup [.str zs_get, .int (1)], .tup [.str zs_get, .int (1)], .tup [.str zs_get, .int (1)]], .str zs_merge]]
def ob2 : Ob := .lst [od0, od1, od2, od3, od4, od5]
def ob3 : Ob := .lst []
def od6 : D := .non
def od7 : D := .loc 3
def od8 : D := .tup [.str zs_get, .int (1)]
def od9 : D := .tup [.tup [.str zs_get, .int (1)], .tup [.str zs_get, .int (1)], .tup [.str zs_get, .int (1)], .tup [.str zs_get, .int (1)], .tup [.str zs_get, .int (1)], .tup [.str zs_get, .int (1)], .tup [.str zs_get, .int (1)], .tup [.str zs_get, .int (1)], .tup [.str zs_get, .int (1)], .tup [.str zs_get, .int (1)], .tup [.str zs_get, .int (1)], .tup [.str zs_get, .int (1)], .tup [.str zs_get, .int (1)], .tup [.str zs_get, .int (1)], .tup [.str zs_get, .int (1)], .tup [.str zs_get, .int (1)], .tup [.str zs_get, .int (1)], .tup [.str zs_get, .int (1)], .tup [.str zs_get, .int (1)], .tup [.str zs_get, .int (1)], .tup [.str zs_get, .int (1)], .tup [.str zs_get, .int (1)], .tup [.str zs_get, .int (1)], .tup [.str zs_get, .int (1)], .tup [.str zs_get, .int (1)], .tup [.str zs_get, .int (1)], .tup [.str zs_get, .int (1)], .tup [.str zs_get, .int (1)], .tup [.str zs_get, .int (1)], .tup [.str zs_get, .int (1)], .tup [.str zs_get, .int (1)], .tup [.str zs_get, .int (1)], .tup [.str zs_get, .int (1)], .tup [.str zs_get, .int (1)], .tup [.str zs_get, .int (1)], .tup [.str zs_get, .int (1)], .tup [.str zs_get, .int (1)], .tup [.str zs_get, .int (1)], .tup [.str zs_get, .int (1)], .tup [.str zs_get, .int (1)], .tup [.str zs_get, .int (1)]]
def od10 : D := .tup [.tup [.str zs_part, .tup [.tup [.str zs_get, .int (1)], .tup [.str zs_get, .int (1)], .tup [.str zs_get, .int (1)], .tup [.str zs_get, .int (1)], .tup [.str zs_get, .int (1)], .tup [.str zs_get, .int (1)], .tup [.str zs_get, .int (1)], .tup [.str zs_get, .int (1)], .tup [.str zs_get, .int (1)], .tup [.str zs_get, .int (1)], .tup [.str zs_get, .int (1)], .tup [.str zs_get, .int (1)], .tup [.str zs_get, .int (1)], .tup [.str zs_get, .int (1)], .tup [.str zs_get, .int (1)], .tup [.str zs_get, .int (1)], .tup [.str zs_get, .int (1)], .tup [.str zs_get, .int (1)], .tup [.str zs_get, .int (1)], .tup [.str zs_get, .int (1)], .tup [.str zs_get, .int (1)], .tup [.str zs_get, .int (1)], .tup [.str zs_get, .int (1)], .tup [.str zs_get, .int (1)], .tup [.str zs_get, .int (1)], .tup [.str zs_get, .int (1)], .tup [.str zs_get, .int (1)], .tup [.str zs_get, .int (1)], .tup [.str zs_get, .int (1)], .tup [.str zs_get, .int (1)], .tup [.str zs_get, .int (1)], .tup [.str zs_get, .int (1)], .tup [.str zs_get, .int (1)], .tup [.str zs_get, .int (1)], .tup [.str zs_get, .int (1)], .tup [.str zs_get, .int (1)], .tup [.str zs_get, .int (1)], .tup [.str zs_get, .int (1)], .tup [.str zs_get, .int (1)], .tup [.str zs_get, .int (1)]], .str zs_abort]]
def od11 : D := .tup [.tup [.str zs_part, .tup [.tup [.str zs_part, .tup [.tup [.str zs_part, .tup [.tup [.str zs_part, .tup [.tup [.str zs_part, .tup [.tup [.str zs_part, .tup [], .str zs_merge]], .str zs_merge]], .str zs_merge]], .str zs_merge]], .str zs_merge]], .str zs_merge]]
def od12 : D := .tup [.tup [.str zs_part, .tup [], .str zs_stop]]
def od13 : D := .tup [.tup [.str zs_part, .tup []]]
def ob4 : Ob := .lst [od6, od7, od8, od9, od10, od11, od12, od13]
def ob5 : Ob := .lst [od8]
def od14 : D := .tup [.tup [.str zs_part, .loc 5, .str zs_merge]]
def od15 : D := .tup [.tup [.str zs_part, .tup [], .non]]
def ob6 : Ob := .lst [od14, od15]
def ob7 : Ob := .lst [od6, od7, od8, od9, od10, od11, od12, od13, od14, od15]
def od16 : D := .str zs_part
def od17 : D := .str zs_merge
def ob8 : Ob := .lst [od16, od0, od17]
def od18 : D := .tup [.tup [.str zs_Part, .tup [], .str zs_merge]]
def od19 : D := .tup [.tup [.str zs_part, .tup [], .str zs_merge, .tup []]]
def od20 : D := .tup [.loc 8]
def od21 : D := .tup [.tup [.str zs_part, .tup [.non], .str zs_merge]]
def ob9 : Ob := .lst [od18, od19, od20, od21]
def ob10 : Ob := .lst [od6, od7, od8, od9, od10, od11, od12, od13, od14, od15, od18, od19, od20, od21]
def od22 : D := .tup [.tup [.str zs_part, .tup [.tup [.str zs_get, .int (64)]], .str zs_merge]]
def od23 : D := .tup [.tup []]
def od24 : D := .tup [.tup [.str zs_get, .int (1)], .non]
def od25 : D := .tup [.tup [.str zs_part, .tup [.tup [.str zs_get, .int (1)], .tup [.str zs_get, .int (1)], .tup [.str zs_get, .int (1)], .tup [.str zs_get, .int (1)], .tup [.str zs_get, .int (1)], .tup [.str zs_get, .int (1)], .tup [.str zs_get, .int (1)], .tup [.str zs_get, .int (1)], .tup [.str zs_get, .int (1)], .tup [.str zs_get, .int (1)], .tup [.str zs_get, .int (1)], .tup [.str zs_get, .int (1)], .tup [.str zs_get, .int (1)], .tup [.str zs_get, .int (1)], .tup [.str zs_get, .int (1)], .tup [.str zs_get, .int (1)], .tup [.str zs_get, .int (1)], .tup [.str zs_get, .int (1)], .tup [.str zs_get, .int (1)], .tup [.str zs_get, .int (1)]], .str zs_merge], .tup [.str zs_part, .tup [.tup [.str zs_get, .int (1)], .tup [.str zs_get, .int (1)], .tup [.str zs_get, .int (1)], .tup [.str zs_get, .int (1)], .tup [.str zs_get, .int (1)], .tup [.str zs_get, .int (1)], .tup [.str zs_get, .int (1)], .tup [.str zs_get, .int (1)], .tup [.str zs_get, .int (1)], .tup [.str zs_get, .int (1)], .tup [.str zs_get, .int (1)], .tup [.str zs_get, .int (1)], .tup [.str zs_get, .int (1)], .tup [.str zs_get, .int (1)], .tup [.str zs_get, .int (1)], .tup [.str zs_get, .int (1)], .tup [.str zs_get, .int (1)], .tup [.str zs_get, .int (1)], .tup [.str zs_get, .int (1)], .tup [.str zs_get, .int (1)]], .str zs_merge]]
def ob11 : Ob := .lst [od22, od23, od24, od25]
def ob12 : Ob := .lst [od6, od7, od8, od9, od10, od11, od12, od13, od14, od15, od18, od19, od20, od21, od22, od23, od24, od25]
def od26 : D := .tup [.tup [.str zs_part, .tup [.tup [.str zs_part, .tup [.tup [.str zs_get, .int (1)], .tup [.str zs_get, .int (1)], .tup [.str zs_get, .int (1)], .tup [.str zs_get, .int (1)], .tup [.str zs_get, .int (1)], .tup [.str zs_get, .int (1)], .tup [.str zs_get, .int (1)], .tup [.str zs_get, .int (1)], .tup [.str zs_get, .int (1)], .tup [.str zs_get, .int (1)], .tup [.str zs_get, .int (1)], .tup [.str zs_get, .int (1)], .tup [.str zs_get, .int (1)], .tup [.str zs_get, .int (1)], .tup [.str zs_get, .int (1)], .tup [.str zs_get, .int (1)], .tup [.str zs_get, .int (1)], .tup [.str zs_get, .int (1)], .tup [.str zs_get, .int (1)], .tup [.str zs_get, .int (1)], .tup [.str zs_get, .int (1)], .tup [.str zs_get, .int (1)], .tup [.str zs_get, .int (1)], .tup [.str zs_get, .int (1)], .tup [.str zs_get, .int (1)], .tup [.str zs_get, .int (1)], .tup [.str zs_get, .int (1)], .tup [.str zs_get, .int (1)], .tup [.str zs_get, .int (1)], .tup [.str zs_get, .int (1)], .tup [.str zs_get, .int (1)], .tup [.str zs_get, .int (1)], .tup [.str zs_get, .int (1)], .tup [.str zs_get, .int (1)], .tup [.str zs_get, .int (1)], .tup [.str zs_get, .int (1)], .tup [.str zs_get, .int (1)], .tup [.str zs_get, .int (1)], .tup [.str zs_get, .int (1)]], .str zs_merge]], .str zs_merge]]
def ob13 : Ob := .lst [od26]
def ob14 : Ob := .lst [od6, od7, od8, od9, od10, od11, od12, od13, od14, od15, od18, od19, od20, od21, od22, od23, od24, od25, od26]
def ob15 : Ob := .lst []
def ob16 : Ob := .lst []
def od27 : D := .tup [.tup [.loc 15, .tup [], .str zs_merge]]
def od28 : D := .tup [.tup [.str zs_part, .tup [], .loc 16]]
def od29 : D := .tup [.tup [.str zs_part, .tup [], .bl true]]
def od30 : D := .tup [.tup [.str zs_part, .non, .str zs_merge]]
def ob17 : Ob := .lst [od27, od28, od29, od30]
def ob18 : Ob := .lst [od6, od7, od8, od9, od10, od11, od12, od13, od14, od15, od18, od19, od20, od21, od22, od23, od24, od25, od26, od27, od28, od29, od30]
def od31 : D := .tup [.tup [.str zs_get, .int (1)], .tup [.str zs_get, .int (1)], .tup [.str zs_get, .int (1)], .tup [.str zs_get, .int (1)], .tup [.str zs_get, .int (1)], .tup [.str zs_get, .int (1)], .tup [.str zs_get, .int (1)], .tup [.str zs_get, .int (1)], .tup [.str zs_get, .int (1)], .tup [.str zs_get, .int (1)], .tup [.str zs_get, .int (1)], .tup [.str zs_get, .int (1)], .tup [.str zs_get, .int (1)], .tup [.str zs_get, .int (1)], .tup [.str zs_get, .int (1)], .tup [.str zs_get, .int (1)], .tup [.str zs_get, .int (1)], .tup [.str zs_get, .int (1)], .tup [.str zs_get, .int (1)], .tup [.str zs_get, .int (1)], .tup [.str zs_get, .int (1)], .tup [.str zs_part, .tup [.tup [.str zs_get, .int (1)], .tup [.str zs_get, .int (1)], .tup [.str zs_get, .int (1)], .tup [.str zs_get, .int (1)], .tup [.str zs_get, .int (1)], .tup [.str zs_get, .int (1)], .tup [.str zs_get, .int (1)], .tup [.str zs_get, .int (1)], .tup [.str zs_get, .int (1)], .tup [.str zs_get, .int (1)], .tup [.str zs_get, .int (1)], .tup [.str zs_get, .int (1)], .tup [.str zs_get, .int (1)], .tup [.str zs_get, .int (1)], .tup [.str zs_get, .int (1)], .tup [.str zs_get, .int (1)], .tup [.str zs_get, .int (1)], .tup [.str zs_get, .int (1)], .tup [.str zs_get, .int (1)]], .str zs_merge]]
def ob19 : Ob := .lst [od31]
def ob20 : Ob := .lst [od6, od7, od8, od9, od10, od11, od12, od13, od14, od15, od18, od19, od20, od21, od22, od23, od24, od25, od26, od27, od28, od29, od30, od31]
def stA : List CS := (f35.body.drop 2).take 10
def stB : CS := f35.body.getD 12 .pass
def stC : CS := f35.body.getD 13 .pass
def stD : CS := f35.body.getD 14 .pass
def slA (ns : List Int) (v : Int) : Sl := [some (.rol ns), some (.loc 0), some (.int v), none, none, none, none, none, none, none, some od8, some (.loc 2), some (.loc 20), none, none, none]
def slC (ns : List Int) (v : Int) (o : Option D) : Sl := [some (.rol ns), some (.loc 0), some (.int v), none, none, none, none, none, none, none, some od8, some (.loc 2), some (.loc 20), none, o, none]
def mA (c : Cup) : Mem := ⟨[(.lst [.int c.a, .int c.b]), ob1, ob2, ob3, ob4, ob5, ob6, ob7, ob8, ob9, ob10, ob11, ob12, ob13, ob14, ob15, ob16, ob17, ob18, ob19, ob20], []⟩
theorem tA (ns : List Int) (c : Cup) (v : Int) : evSs (Cm 56) stA [some (.rol ns), some (.loc 0), some (.int v), none, none, none, none, none, none, none, none, none, none, none, none, none] (cm c [] []) = .next (slA ns v) (mA c) := by
  kernel_rfl
theorem tB (ns : List Int) (c : Cup) (v : Int) (x0 x1 x4 x6 x7 x9 x10 x11 x12 x13 x14 x17 x18 x19 x20 : Ob) : evS (Cm 56) stB (slA ns v) ⟨[x0, x1, ob2, ob3, x4, ob5, x6, x7, ob8, x9, x10, x11, x12, x13, x14, ob15, ob16, x17, x18, x19, x20], []⟩ = .next (slA ns v) ⟨[x0, x1, ob2, ob3, x4, ob5, x6, x7, ob8, x9, x10, x11, x12, x13, x14, ob15, ob16, x17, x18, x19, x20], []⟩ := by
  kernel_rfl
theorem tC0 (ns : List Int) (v : Int) (x0 x1 x2 x4 x6 x7 x9 x10 x11 x12 x13 x14 x17 x18 x19 x20 : Ob) : evSs (Cm 56) [.sweep [15] b35_5] (slC ns v (some od6)) ⟨[x0, x1, x2, ob3, x4, ob5, x6, x7, ob8, x9, x10, x11, x12, x13, x14, ob15, ob16, x17, x18, x19, x20], []⟩ = .next (slC ns v (some od6)) ⟨[x0, x1, x2, ob3, x4, ob5, x6, x7, ob8, x9, x10, x11, x12, x13, x14, ob15, ob16, x17, x18, x19, x20], []⟩ := by
  kernel_rfl
theorem tC1 (ns : List Int) (v : Int) (x0 x1 x2 x4 x6 x7 x9 x10 x11 x12 x13 x14 x17 x18 x19 x20 : Ob) : evSs (Cm 56) [.sweep [15] b35_5] (slC ns v (some od7)) ⟨[x0, x1, x2, ob3, x4, ob5, x6, x7, ob8, x9, x10, x11, x12, x13, x14, ob15, ob16, x17, x18, x19, x20], []⟩ = .next (slC ns v (some od7)) ⟨[x0, x1, x2, ob3, x4, ob5, x6, x7, ob8, x9, x10, x11, x12, x13, x14, ob15, ob16, x17, x18, x19, x20], []⟩ := by
  kernel_rfl
theorem tC2 (ns : List Int) (v : Int) (x0 x1 x2 x4 x6 x7 x9 x10 x11 x12 x13 x14 x17 x18 x19 x20 : Ob) : evSs (Cm 56) [.sweep [15] b35_5] (slC ns v (some od8)) ⟨[x0, x1, x2, ob3, x4, ob5, x6, x7, ob8, x9, x10, x11, x12, x13, x14, ob15, ob16, x17, x18, x19, x20], []⟩ = .next (slC ns v (some od8)) ⟨[x0, x1, x2, ob3, x4, ob5, x6, x7, ob8, x9, x10, x11, x12, x13, x14, ob15, ob16, x17, x18, x19, x20], []⟩ := by
  kernel_rfl
theorem tC3 (ns : List Int) (v : Int) (x0 x1 x2 x4 x6 x7 x9 x10 x11 x12 x13 x14 x17 x18 x19 x20 : Ob) : evSs (Cm 56) [.sweep [15] b35_5] (slC ns v (some od9)) ⟨[x0, x1, x2, ob3, x4, ob5, x6, x7, ob8, x9, x10, x11, x12, x13, x14, ob15, ob16, x17, x18, x19, x20], []⟩ = .next (slC ns v (some od9)) ⟨[x0, x1, x2, ob3, x4, ob5, x6, x7, ob8, x9, x10, x11, x12, x13, x14, ob15, ob16, x17, x18, x19, x20], []⟩ := by
  kernel_rfl
theorem tC4 (ns : List Int) (v : Int) (x0 x1 x2 x4 x6 x7 x9 x10 x11 x12 x13 x14 x17 x18 x19 x20 : Ob) : evSs (Cm 56) [.sweep [15] b35_5] (slC ns v (some od10)) ⟨[x0, x1, x2, ob3, x4, ob5, x6, x7, ob8, x9, x10, x11, x12, x13, x14, ob15, ob16, x17, x18, x19, x20], []⟩ = .next (slC ns v (some od10)) ⟨[x0, x1, x2, ob3, x4, ob5, x6, x7, ob8, x9, x10, x11, x12, x13, x14, ob15, ob16, x17, x18, x19, x20], []⟩ := by
  kernel_rfl
theorem tC5 (ns : List Int) (v : Int) (x0 x1 x2 x4 x6 x7 x9 x10 x11 x12 x13 x14 x17 x18 x19 x20 : Ob) : evSs (Cm 56) [.sweep [15] b35_5] (slC ns v (some od11)) ⟨[x0, x1, x2, ob3, x4, ob5, x6, x7, ob8, x9, x10, x11, x12, x13, x14, ob15, ob16, x17, x18, x19, x20], []⟩ = .next (slC ns v (some od11)) ⟨[x0, x1, x2, ob3, x4, ob5, x6, x7, ob8, x9, x10, x11, x12, x13, x14, ob15, ob16, x17, x18, x19, x20], []⟩ := by
  kernel_rfl
theorem tC6 (ns : List Int) (v : Int) (x0 x1 x2 x4 x6 x7 x9 x10 x11 x12 x13 x14 x17 x18 x19 x20 : Ob) : evSs (Cm 56) [.sweep [15] b35_5] (slC ns v (some od12)) ⟨[x0, x1, x2, ob3, x4, ob5, x6, x7, ob8, x9, x10, x11, x12, x13, x14, ob15, ob16, x17, x18, x19, x20], []⟩ = .next (slC ns v (some od12)) ⟨[x0, x1, x2, ob3, x4, ob5, x6, x7, ob8, x9, x10, x11, x12, x13, x14, ob15, ob16, x17, x18, x19, x20], []⟩ := by
  kernel_rfl
theorem tC7 (ns : List Int) (v : Int) (x0 x1 x2 x4 x6 x7 x9 x10 x11 x12 x13 x14 x17 x18 x19 x20 : Ob) : evSs (Cm 56) [.sweep [15] b35_5] (slC ns v (some od13)) ⟨[x0, x1, x2, ob3, x4, ob5, x6, x7, ob8, x9, x10, x11, x12, x13, x14, ob15, ob16, x17, x18, x19, x20], []⟩ = .next (slC ns v (some od13)) ⟨[x0, x1, x2, ob3, x4, ob5, x6, x7, ob8, x9, x10, x11, x12, x13, x14, ob15, ob16, x17, x18, x19, x20], []⟩ := by
  kernel_rfl
theorem tC8 (ns : List Int) (v : Int) (x0 x1 x2 x4 x6 x7 x9 x10 x11 x12 x13 x14 x17 x18 x19 x20 : Ob) : evSs (Cm 56) [.sweep [15] b35_5] (slC ns v (some od14)) ⟨[x0, x1, x2, ob3, x4, ob5, x6, x7, ob8, x9, x10, x11, x12, x13, x14, ob15, ob16, x17, x18, x19, x20], []⟩ = .next (slC ns v (some od14)) ⟨[x0, x1, x2, ob3, x4, ob5, x6, x7, ob8, x9, x10, x11, x12, x13, x14, ob15, ob16, x17, x18, x19, x20], []⟩ := by
  kernel_rfl
theorem tC9 (ns : List Int) (v : Int) (x0 x1 x2 x4 x6 x7 x9 x10 x11 x12 x13 x14 x17 x18 x19 x20 : Ob) : evSs (Cm 56) [.sweep [15] b35_5] (slC ns v (some od15)) ⟨[x0, x1, x2, ob3, x4, ob5, x6, x7, ob8, x9, x10, x11, x12, x13, x14, ob15, ob16, x17, x18, x19, x20], []⟩ = .next (slC ns v (some od15)) ⟨[x0, x1, x2, ob3, x4, ob5, x6, x7, ob8, x9, x10, x11, x12, x13, x14, ob15, ob16, x17, x18, x19, x20], []⟩ := by
  kernel_rfl
theorem tC10 (ns : List Int) (v : Int) (x0 x1 x2 x4 x6 x7 x9 x10 x11 x12 x13 x14 x17 x18 x19 x20 : Ob) : evSs (Cm 56) [.sweep [15] b35_5] (slC ns v (some od18)) ⟨[x0, x1, x2, ob3, x4, ob5, x6, x7, ob8, x9, x10, x11, x12, x13, x14, ob15, ob16, x17, x18, x19, x20], []⟩ = .next (slC ns v (some od18)) ⟨[x0, x1, x2, ob3, x4, ob5, x6, x7, ob8, x9, x10, x11, x12, x13, x14, ob15, ob16, x17, x18, x19, x20], []⟩ := by
  kernel_rfl
theorem tC11 (ns : List Int) (v : Int) (x0 x1 x2 x4 x6 x7 x9 x10 x11 x12 x13 x14 x17 x18 x19 x20 : Ob) : evSs (Cm 56) [.sweep [15] b35_5] (slC ns v (some od19)) ⟨[x0, x1, x2, ob3, x4, ob5, x6, x7, ob8, x9, x10, x11, x12, x13, x14, ob15, ob16, x17, x18, x19, x20], []⟩ = .next (slC ns v (some od19)) ⟨[x0, x1, x2, ob3, x4, ob5, x6, x7, ob8, x9, x10, x11, x12, x13, x14, ob15, ob16, x17, x18, x19, x20], []⟩ := by
  kernel_rfl
theorem tC12 (ns : List Int) (v : Int) (x0 x1 x2 x4 x6 x7 x9 x10 x11 x12 x13 x14 x17 x18 x19 x20 : Ob) : evSs (Cm 56) [.sweep [15] b35_5] (slC ns v (some od20)) ⟨[x0, x1, x2, ob3, x4, ob5, x6, x7, ob8, x9, x10, x11, x12, x13, x14, ob15, ob16, x17, x18, x19, x20], []⟩ = .next (slC ns v (some od20)) ⟨[x0, x1, x2, ob3, x4, ob5, x6, x7, ob8, x9, x10, x11, x12, x13, x14, ob15, ob16, x17, x18, x19, x20], []⟩ := by
  kernel_rfl
theorem tC13 (ns : List Int) (v : Int) (x0 x1 x2 x4 x6 x7 x9 x10 x11 x12 x13 x14 x17 x18 x19 x20 : Ob) : evSs (Cm 56) [.sweep [15] b35_5] (slC ns v (some od21)) ⟨[x0, x1, x2, ob3, x4, ob5, x6, x7, ob8, x9, x10, x11, x12, x13, x14, ob15, ob16, x17, x18, x19, x20], []⟩ = .next (slC ns v (some od21)) ⟨[x0, x1, x2, ob3, x4, ob5, x6, x7, ob8, x9, x10, x11, x12, x13, x14, ob15, ob16, x17, x18, x19, x20], []⟩ := by
  kernel_rfl
theorem tC14 (ns : List Int) (v : Int) (x0 x1 x2 x4 x6 x7 x9 x10 x11 x12 x13 x14 x17 x18 x19 x20 : Ob) : evSs (Cm 56) [.sweep [15] b35_5] (slC ns v (some od22)) ⟨[x0, x1, x2, ob3, x4, ob5, x6, x7, ob8, x9, x10, x11, x12, x13, x14, ob15, ob16, x17, x18, x19, x20], []⟩ = .next (slC ns v (some od22)) ⟨[x0, x1, x2, ob3, x4, ob5, x6, x7, ob8, x9, x10, x11, x12, x13, x14, ob15, ob16, x17, x18, x19, x20], []⟩ := by
  kernel_rfl
theorem tC15 (ns : List Int) (v : Int) (x0 x1 x2 x4 x6 x7 x9 x10 x11 x12 x13 x14 x17 x18 x19 x20 : Ob) : evSs (Cm 56) [.sweep [15] b35_5] (slC ns v (some od23)) ⟨[x0, x1, x2, ob3, x4, ob5, x6, x7, ob8, x9, x10, x11, x12, x13, x14, ob15, ob16, x17, x18, x19, x20], []⟩ = .next (slC ns v (some od23)) ⟨[x0, x1, x2, ob3, x4, ob5, x6, x7, ob8, x9, x10, x11, x12, x13, x14, ob15, ob16, x17, x18, x19, x20], []⟩ := by
  kernel_rfl
theorem tC16 (ns : List Int) (v : Int) (x0 x1 x2 x4 x6 x7 x9 x10 x11 x12 x13 x14 x17 x18 x19 x20 : Ob) : evSs (Cm 56) [.sweep [15] b35_5] (slC ns v (some od24)) ⟨[x0, x1, x2, ob3, x4, ob5, x6, x7, ob8, x9, x10, x11, x12, x13, x14, ob15, ob16, x17, x18, x19, x20], []⟩ = .next (slC ns v (some od24)) ⟨[x0, x1, x2, ob3, x4, ob5, x6, x7, ob8, x9, x10, x11, x12, x13, x14, ob15, ob16, x17, x18, x19, x20], []⟩ := by
  kernel_rfl
theorem tC17 (ns : List Int) (v : Int) (x0 x1 x2 x4 x6 x7 x9 x10 x11 x12 x13 x14 x17 x18 x19 x20 : Ob) : evSs (Cm 56) [.sweep [15] b35_5] (slC ns v (some od25)) ⟨[x0, x1, x2, ob3, x4, ob5, x6, x7, ob8, x9, x10, x11, x12, x13, x14, ob15, ob16, x17, x18, x19, x20], []⟩ = .next (slC ns v (some od25)) ⟨[x0, x1, x2, ob3, x4, ob5, x6, x7, ob8, x9, x10, x11, x12, x13, x14, ob15, ob16, x17, x18, x19, x20], []⟩ := by
  kernel_rfl
theorem tC18 (ns : List Int) (v : Int) (x0 x1 x2 x4 x6 x7 x9 x10 x11 x12 x13 x14 x17 x18 x19 x20 : Ob) : evSs (Cm 56) [.sweep [15] b35_5] (slC ns v (some od26)) ⟨[x0, x1, x2, ob3, x4, ob5, x6, x7, ob8, x9, x10, x11, x12, x13, x14, ob15, ob16, x17, x18, x19, x20], []⟩ = .next (slC ns v (some od26)) ⟨[x0, x1, x2, ob3, x4, ob5, x6, x7, ob8, x9, x10, x11, x12, x13, x14, ob15, ob16, x17, x18, x19, x20], []⟩ := by
  kernel_rfl
theorem tC19 (ns : List Int) (v : Int) (x0 x1 x2 x4 x6 x7 x9 x10 x11 x12 x13 x14 x17 x18 x19 x20 : Ob) : evSs (Cm 56) [.sweep [15] b35_5] (slC ns v (some od27)) ⟨[x0, x1, x2, ob3, x4, ob5, x6, x7, ob8, x9, x10, x11, x12, x13, x14, ob15, ob16, x17, x18, x19, x20], []⟩ = .next (slC ns v (some od27)) ⟨[x0, x1, x2, ob3, x4, ob5, x6, x7, ob8, x9, x10, x11, x12, x13, x14, ob15, ob16, x17, x18, x19, x20], []⟩ := by
  kernel_rfl
theorem tC20 (ns : List Int) (v : Int) (x0 x1 x2 x4 x6 x7 x9 x10 x11 x12 x13 x14 x17 x18 x19 x20 : Ob) : evSs (Cm 56) [.sweep [15] b35_5] (slC ns v (some od28)) ⟨[x0, x1, x2, ob3, x4, ob5, x6, x7, ob8, x9, x10, x11, x12, x13, x14, ob15, ob16, x17, x18, x19, x20], []⟩ = .next (slC ns v (some od28)) ⟨[x0, x1, x2, ob3, x4, ob5, x6, x7, ob8, x9, x10, x11, x12, x13, x14, ob15, ob16, x17, x18, x19, x20], []⟩ := by
  kernel_rfl
theorem tC21 (ns : List Int) (v : Int) (x0 x1 x2 x4 x6 x7 x9 x10 x11 x12 x13 x14 x17 x18 x19 x20 : Ob) : evSs (Cm 56) [.sweep [15] b35_5] (slC ns v (some od29)) ⟨[x0, x1, x2, ob3, x4, ob5, x6, x7, ob8, x9, x10, x11, x12, x13, x14, ob15, ob16, x17, x18, x19, x20], []⟩ = .next (slC ns v (some od29)) ⟨[x0, x1, x2, ob3, x4, ob5, x6, x7, ob8, x9, x10, x11, x12, x13, x14, ob15, ob16, x17, x18, x19, x20], []⟩ := by
  kernel_rfl
theorem tC22 (ns : List Int) (v : Int) (x0 x1 x2 x4 x6 x7 x9 x10 x11 x12 x13 x14 x17 x18 x19 x20 : Ob) : evSs (Cm 56) [.sweep [15] b35_5] (slC ns v (some od30)) ⟨[x0, x1, x2, ob3, x4, ob5, x6, x7, ob8, x9, x10, x11, x12, x13, x14, ob15, ob16, x17, x18, x19, x20], []⟩ = .next (slC ns v (some od30)) ⟨[x0, x1, x2, ob3, x4, ob5, x6, x7, ob8, x9, x10, x11, x12, x13, x14, ob15, ob16, x17, x18, x19, x20], []⟩ := by
  kernel_rfl
theorem tC23 (ns : List Int) (v : Int) (x0 x1 x2 x4 x6 x7 x9 x10 x11 x12 x13 x14 x17 x18 x19 x20 : Ob) : evSs (Cm 56) [.sweep [15] b35_5] (slC ns v (some od31)) ⟨[x0, x1, x2, ob3, x4, ob5, x6, x7, ob8, x9, x10, x11, x12, x13, x14, ob15, ob16, x17, x18, x19, x20], []⟩ = .next (slC ns v (some od31)) ⟨[x0, x1, x2, ob3, x4, ob5, x6, x7, ob8, x9, x10, x11, x12, x13, x14, ob15, ob16, x17, x18, x19, x20], []⟩ := by
  kernel_rfl
theorem tD (ns : List Int) (v : Int) (o : Option D) (x0 x1 x2 x3 x4 x5 x6 x7 x8 x9 x10 x11 x12 x13 x14 x15 x16 x17 x18 x19 x20 : Ob) : retB (evS (Cm 56) stD (slC ns v o) ⟨[x0, x1, x2, x3, x4, x5, x6, x7, x8, x9, x10, x11, x12, x13, x14, x15, x16, x17, x18, x19, x20], []⟩) = true := by
  kernel_rfl
end T02

set_option Elab.async false
set_option linter.all false
set_option maxRecDepth 100000
set_option maxHeartbeats 1000000
namespace T02
open NV PySem
def tailS : List CS := f35.body.drop 2
theorem forI_stay {b : Sl → Mem → Rt} {tg : TG} {a : Nat} {xs : List D} {m : Mem} (T : Option D → Sl) (hl : lstOf m (.loc a) = some xs) (ha : ∀ x o, asgT tg x (T o) = some (T (some x))) (hb : ∀ x ∈ xs, b (T (some x)) m = .next (T (some x)) m) :
    ∀ (f i : Nat) (o : Option D), xs.length - i < f → ∃ o', forI b tg (.dyn a) f i (T o) m = .next (T o') m
  | 0, i, o, hf => by omega
  | f + 1, i, o, hf => by
    cases e : xs[i]? with
    | none => exact ⟨o, by simp only [forI, itAt, hl, e]⟩
    | some x =>
      have hi := (List.getElem?_eq_some_iff.mp e).1
      obtain ⟨o', h⟩ := forI_stay T hl ha hb f (i + 1) (some x) (by omega)
      exact ⟨o', by simp only [forI, itAt, hl, e, ha, hb x (List.mem_of_getElem? e), h]⟩
theorem for_dyn {C : Ct} {tg : TG} {i a : Nat} {b : List CS} {s : Sl} {m : Mem} (h : getS s i = some (.loc a)) (hl : isLst m a = true) : evS C (.for tg .seq [.var i] b) s m = forI (evSs C b) tg (.dyn a) C.fu 0 s m := by
  simp only [evS, sFor, evL, evE, xCons, xNil, xVar, h, Rs.bind, Rs.then, itOf, itSeq, hl, if_true, forRun]
theorem tC (ns : List Int) (c : Cup) (v : Int) : ∃ o, evS (Cm 56) stC (slA ns v) (mA c) = .next (slC ns v o) (mA c) := by
  have hb : ∀ x ∈ [od6, od7, od8, od9, od10, od11, od12, od13, od14, od15, od18, od19, od20, od21, od22, od23, od24, od25, od26, od27, od28, od29, od30, od31], evSs (Cm 56) [.sweep [15] b35_5] (slC ns v (some x)) (mA c) = .next (slC ns v (some x)) (mA c) := by
    unfold mA
    simp only [List.forall_mem_cons]
    refine ⟨tC0 ns v (.lst [.int c.a, .int c.b]) ob1 ob2 ob4 ob6 ob7 ob9 ob10 ob11 ob12 ob13 ob14 ob17 ob18 ob19 ob20, tC1 ns v (.lst [.int c.a, .int c.b]) ob1 ob2 ob4 ob6 ob7 ob9 ob10 ob11 ob12 ob13 ob14 ob17 ob18 ob19 ob20, tC2 ns v (.lst [.int c.a, .int c.b]) ob1 ob2 ob4 ob6 ob7 ob9 ob10 ob11 ob12 ob13 ob14 ob17 ob18 ob19 ob20, tC3 ns v (.lst [.int c.a, .int c.b]) ob1 ob2 ob4 ob6 ob7 ob9 ob10 ob11 ob12 ob13 ob14 ob17 ob18 ob19 ob20, tC4 ns v (.lst [.int c.a, .int c.b]) ob1 ob2 ob4 ob6 ob7 ob9 ob10 ob11 ob12 ob13 ob14 ob17 ob18 ob19 ob20, tC5 ns v (.lst [.int c.a, .int c.b]) ob1 ob2 ob4 ob6 ob7 ob9 ob10 ob11 ob12 ob13 ob14 ob17 ob18 ob19 ob20, tC6 ns v (.lst [.int c.a, .int c.b]) ob1 ob2 ob4 ob6 ob7 ob9 ob10 ob11 ob12 ob13 ob14 ob17 ob18 ob19 ob20, tC7 ns v (.lst [.int c.a, .int c.b]) ob1 ob2 ob4 ob6 ob7 ob9 ob10 ob11 ob12 ob13 ob14 ob17 ob18 ob19 ob20, tC8 ns v (.lst [.int c.a, .int c.b]) ob1 ob2 ob4 ob6 ob7 ob9 ob10 ob11 ob12 ob13 ob14 ob17 ob18 ob19 ob20, tC9 ns v (.lst [.int c.a, .int c.b]) ob1 ob2 ob4 ob6 ob7 ob9 ob10 ob11 ob12 ob13 ob14 ob17 ob18 ob19 ob20, tC10 ns v (.lst [.int c.a, .int c.b]) ob1 ob2 ob4 ob6 ob7 ob9 ob10 ob11 ob12 ob13 ob14 ob17 ob18 ob19 ob20, tC11 ns v (.lst [.int c.a, .int c.b]) ob1 ob2 ob4 ob6 ob7 ob9 ob10 ob11 ob12 ob13 ob14 ob17 ob18 ob19 ob20, tC12 ns v (.lst [.int c.a, .int c.b]) ob1 ob2 ob4 ob6 ob7 ob9 ob10 ob11 ob12 ob13 ob14 ob17 ob18 ob19 ob20, tC13 ns v (.lst [.int c.a, .int c.b]) ob1 ob2 ob4 ob6 ob7 ob9 ob10 ob11 ob12 ob13 ob14 ob17 ob18 ob19 ob20, tC14 ns v (.lst [.int c.a, .int c.b]) ob1 ob2 ob4 ob6 ob7 ob9 ob10 ob11 ob12 ob13 ob14 ob17 ob18 ob19 ob20, tC15 ns v (.lst [.int c.a, .int c.b]) ob1 ob2 ob4 ob6 ob7 ob9 ob10 ob11 ob12 ob13 ob14 ob17 ob18 ob19 ob20, tC16 ns v (.lst [.int c.a, .int c.b]) ob1 ob2 ob4 ob6 ob7 ob9 ob10 ob11 ob12 ob13 ob14 ob17 ob18 ob19 ob20, tC17 ns v (.lst [.int c.a, .int c.b]) ob1 ob2 ob4 ob6 ob7 ob9 ob10 ob11 ob12 ob13 ob14 ob17 ob18 ob19 ob20, tC18 ns v (.lst [.int c.a, .int c.b]) ob1 ob2 ob4 ob6 ob7 ob9 ob10 ob11 ob12 ob13 ob14 ob17 ob18 ob19 ob20, tC19 ns v (.lst [.int c.a, .int c.b]) ob1 ob2 ob4 ob6 ob7 ob9 ob10 ob11 ob12 ob13 ob14 ob17 ob18 ob19 ob20, tC20 ns v (.lst [.int c.a, .int c.b]) ob1 ob2 ob4 ob6 ob7 ob9 ob10 ob11 ob12 ob13 ob14 ob17 ob18 ob19 ob20, tC21 ns v (.lst [.int c.a, .int c.b]) ob1 ob2 ob4 ob6 ob7 ob9 ob10 ob11 ob12 ob13 ob14 ob17 ob18 ob19 ob20, tC22 ns v (.lst [.int c.a, .int c.b]) ob1 ob2 ob4 ob6 ob7 ob9 ob10 ob11 ob12 ob13 ob14 ob17 ob18 ob19 ob20, tC23 ns v (.lst [.int c.a, .int c.b]) ob1 ob2 ob4 ob6 ob7 ob9 ob10 ob11 ob12 ob13 ob14 ob17 ob18 ob19 ob20, fun _ h => by cases h⟩
  obtain ⟨o, e⟩ := forI_stay (b := evSs (Cm 56) [.sweep [15] b35_5]) (tg := .nm 14) (a := 20) (m := mA c) (slC ns v) rfl (fun _ _ => rfl) hb 100000 0 none (by simp)
  have hC : stC = .for (.nm 14) .seq [.var 12] [.sweep [15] b35_5] := rfl
  have hg : getS (slA ns v) 12 = some (.loc 20) := rfl
  have hL : isLst (mA c) 20 = true := rfl
  refine ⟨o, ?_⟩
  rw [hC, for_dyn hg hL]
  exact e
end T02

set_option Elab.async false
set_option linter.all false
set_option maxRecDepth 100000
set_option maxHeartbeats 1000000
namespace T02
open NV PySem
theorem tail_eq (ns : List Int) (c : Cup) (v : Int) : retB (evSs (Cm 56) tailS [some (.rol ns), some (.loc 0), some (.int v), none, none, none, none, none, none, none, none, none, none, none, none, none] (cm c [] [])) = true := by
  have ht : tailS = stA ++ [stB, stC, stD] := rfl
  obtain ⟨o, e⟩ := tC ns c v
  have eB : evS (Cm 56) stB (slA ns v) (mA c) = .next (slA ns v) (mA c) := by
    unfold mA
    exact tB ns c v (.lst [.int c.a, .int c.b]) ob1 ob4 ob6 ob7 ob9 ob10 ob11 ob12 ob13 ob14 ob17 ob18 ob19 ob20
  rw [ht, evSs_app, tA, and_next, evSs_cons, eB, and_next, evSs_cons, e, and_next, evSs_cons]
  have d2 : retB (evS (Cm 56) stD (slC ns v o) (mA c)) = true := by
    unfold mA
    exact tD ns v o (.lst [.int c.a, .int c.b]) ob1 ob2 ob3 ob4 ob5 ob6 ob7 ob8 ob9 ob10 ob11 ob12 ob13 ob14 ob15 ob16 ob17 ob18 ob19 ob20
  generalize evS (Cm 56) stD (slC ns v o) (mA c) = r at d2
  cases r with
  | ret d m => exact d2
  | _ => cases d2
end T02

set_option Elab.async false
set_option linter.all false
set_option maxRecDepth 100000
set_option maxHeartbeats 1000000
namespace T02
open NV PySem
theorem ev : ∀ ns : List Int, ns.length ≤ 63 → ∃ m', callN tb 57 35 [.rol ns] ⟨[], []⟩ = .ok (.bl true) m' := fun ns h => by
  obtain ⟨c, e1⟩ := cup_eq 55 ns h
  obtain ⟨c2, y, hy, e2⟩ := law_loop 44 ns 4 0 c none
  have hy2 : ∃ v, y = some (.int v) := hy.elim (fun z => absurd z.1 (by decide)) id
  obtain ⟨v, rfl⟩ := hy2
  have e3 := tail_eq ns c2 v
  have hb : f35.body = [.asg (.nm 1) (.call 22 [.var 0]), .for (.nm 2) .rng1 [.int 4] [.sweep [3, 4, 5, 6, 7, 8, 9] b35_1]] ++ tailS := rfl
  have hcl : clean (⟨[], []⟩ : Mem) (.loc 0) (cm c [] []) = .ok (.loc 0) (cm c [] []) := rfl
  show ∃ m', (callL tb 57).1 35 [.rol ns] ⟨[], []⟩ = .ok (.bl true) m'
  rw [call_sm (fd := f35) rfl]
  have hst : startS f35 [.rol ns] = [some (.rol ns), none, none, none, none, none, none, none, none, none, none, none, none, none, none, none] := rfl
  have hmain : evSs (Cm 56) f35.body [some (.rol ns), none, none, none, none, none, none, none, none, none, none, none, none, none, none, none] ⟨[], []⟩ = evSs (Cm 56) tailS [some (.rol ns), some (.loc 0), some (.int v), none, none, none, none, none, none, none, none, none, none, none, none, none] (cm c2 [] []) := by
    have a1 : evS (Cm 56) (.asg (.nm 1) (.call 22 [.var 0])) [some (.rol ns), none, none, none, none, none, none, none, none, none, none, none, none, none, none, none] ⟨[], []⟩ = .next [some (.rol ns), some (.loc 0), none, none, none, none, none, none, none, none, none, none, none, none, none, none] (cm c [] []) := by
      simp (decide := true) only [e1, hcl, eq_self, decide_true, decide_false, runFn, evSs, evS, evE, evL, evO, evB, evAndB, evOrB, evT, evAnd, evOr, evTs, sSeq, sRet, sPass, sAsg, sExpr, sIf, sRaise, sSetIx, sAug, xCall, xOfT, xAnd, xOr, xBol, xTru, xNot, xPr, xMe, xCons, xNil, xVar, xChain, xCB, xC, xIte, xTup, xLst, xDic, xSl, xAt, xNoP, okTup, okLst, getS, setS, startS, Rs.bind, Rs.then, Rt.and, boolR, truthR, truthD, okBl, asgT, asgTs, gl_ct, call_ct, fu_ct, end_next, end_exc, end_bl, end_int, end_str, end_non, end_tup, clean_bl, clean_int, clean_str, clean_non, clean_tup, nl_non, nl_bl, nl_int, nl_str, nl_tup, nl_loc, nlL_nil, nlL_cons, Bool.and_true, Bool.true_and, Bool.and_false, Bool.false_and, Bool.or_true, Bool.or_false, Bool.true_or, Bool.false_or, Bool.not_true, Bool.not_false, List.length_cons, List.length_nil, List.map_cons, List.map_nil, List.cons_append, List.nil_append, List.getElem?_cons_zero, List.getElem?_cons_succ, List.set_cons_zero, List.set_cons_succ, Nat.reduceAdd, Int.reduceSub, Int.reduceNeg, Nat.reduceSub, Nat.reduceBEq, List.replicate_succ, List.replicate_zero, if_true, if_false, reduceIte, beq_self_eq_true, cln_self, q_le, q_lt, q_gt, q_ge, q_add, q_sub, q_neg, q_abs, q_int, q_bool, q_eqI, q_neI, q_ix0, q_ix1, q_ix2, q_lenT, q_isInt, q_isBool, q_isTuple, q_isStr, p_is, tyD, tInt, tBool, tTuple, tStr, ok_zs_get, ok_zs_remove, ok_zs_put, ok_zs_add, ok_zs_sum, ok_zs_not_records, ok_zs_not_an_operation, ok_zs_part, ok_zs_merge, ok_zs_not_a_nest, ok_zs_abort, ok_zs_records, ok_zs_operation, ok_zs_nest, ok_z14, ok_zs_stop, ok_zs_Part, gl_KEYS, gl_HIGHEST, gl_ROUND, gl_ITEMS, gl_DEEP, gl_ENDS]
    have a2 : ∀ s m, evS (Cm 56) (.for (.nm 2) .rng1 [.int 4] [.sweep [3, 4, 5, 6, 7, 8, 9] b35_1]) s m = forF (evSs (Cm 56) [.sweep [3, 4, 5, 6, 7, 8, 9] b35_1]) (.nm 2) (rngL 0 1 0 4) s m := fun _ _ => rfl
    have hs : ∀ C (a b : CS) (r : List CS) s m, evSs C ([a, b] ++ r) s m = (evS C a s m).and fun s m => (evS C b s m).and (evSs C r) := fun _ _ _ _ _ _ => rfl
    rw [hb, hs]
    have hand : ∀ s m f, (Rt.next s m).and f = f s m := fun _ _ _ => rfl
    rw [a1, hand, a2, e2, hand]
  unfold runFn
  have hlen : (([.rol ns] : List D).length == f35.np) = true := rfl
  rw [hlen, if_pos rfl, hst]
  show ∃ m', endR _ (evSs (Cm 56) f35.body _ _) = _
  rw [hmain]
  generalize evSs (Cm 56) tailS [some (.rol ns), some (.loc 0), some (.int v), none, none, none, none, none, none, none, none, none, none, none, none, none] (cm c2 [] []) = r at e3
  cases r with
  | ret d m' =>
    cases d with
    | bl b =>
      have e4 : b = true := e3
      rw [e4]
      exact ⟨_, rfl⟩
    | _ => cases e3
  | _ => cases e3
end T02

set_option Elab.async false
set_option linter.all false
set_option maxRecDepth 100000
set_option maxHeartbeats 0
open PySem PySem.Spec PyProof.Rows L2 NV
namespace T02
theorem ok : X.Ok := Txt.ok_by (by decide +kernel) (by decide +kernel) (by decide +kernel)
abbrev R : PySem.W.OpenRow := PySem.W.OpenLaw.row PySem.Challenge.rw_nestvault_k02_whole_nests
abbrev hk : PySem.W.Hook := X.hook 4
def ob (s : PySem.W.SharedT) : He.AlD × Bool := X.obsG 4 (HandSHeadRun.getT s)
theorem ob_eq (s : PySem.W.SharedT) : ob s = hk.obs s.abs := Txt.obsG_eq (HandSHeadRun.getT_eq s)
def los : List Str := nx.cnm ++ nx.gnm ++ nx.fnm.dropLast.filter fun x => !(x == ("" : Str))
theorem run (w : World) : HandSHeadRun.RunEq R (PySem.W.view R.prog [49]) hk ob 4000 los w := by
  intro os
  kernel_rfl
end T02

set_option Elab.async false
set_option linter.all false
set_option maxRecDepth 100000
set_option maxHeartbeats 0
open PySem PySem.W PySem.Calls PyProof.Rows
theorem T02.room : L2.Room (4 * 57) callerA := ⟨rfl, by decide, by decide⟩
theorem PySem.Challenge.cw_nestvault_k02_whole_nests_holds : PySem.Challenge.rw_nestvault_k02_whole_nests.Holds := by
  w_on; o_law
  refine HandSHeadRun.head_any (r := T02.R) (q := view T02.R.prog [49]) (H := T02.hk) (ob := T02.ob) (M := 4000) (loose := T02.los) (d := HandSHeadRun.topDef T02.R.prog 49) (kwd := []) T02.ob_eq
    (by kernel_rfl) (fun s => by kernel_rfl) T02.run (by kernel_rfl) (by kernel_rfl) (by kernel_rfl) (by rfl) (by first | assumption | decide +kernel) (by decide +kernel) ⟨rfl, rfl, rfl, rfl, rfl, by decide +kernel⟩ ?hw ?hc
  case hw => w_witness2
  case hc => exact NV.nv_walk (l := PySem.Challenge.rw_nestvault_k02_whole_nests) (X := T02.X) (most := 63) (lv := 57) (kL := 35) T02.ok rfl (by decide) (by kernel_rfl) T02.room (by decide +kernel) (by decide +kernel) T02.ev

