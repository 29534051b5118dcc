import PyProof.Rows.All
import Wide.All
import OpenK.AllK
import Wide.FinOn
import HandS.Base
import HandS.Call
import HandS.List
import HandS.Text
import HandS.Iter
import HandS.Words
import HandS.Defaults
import HandS.HeadHook4
import HandS.HeadWalk
import HandS.Head0
import HandS.Head1
import HandS.Head2
import HandS.ExcField
import PySem.Challenge.RW_asoneoffice_k82_keys_as_texts_sign_by_si
import HandS.Comp
import HandS.Exc
import HandS.Lambda
import HandS.ExcOwn
import HandS.TupAny
import HandS.Style
import HandS.Wide
import PyProof.StrOps2
import HandS.IsInst
import HandS.Conv
import HandS.ExcCtx
import KE.GoesRaise
import HandS.ReplaceLit
import KE.KExcSuper
import KE.KSuper
import HandS.ExcInit
import HandS.HotCalls
import HandS.ExcIs
import KE.KExcIs
import PyProof.StrLawsTight
import PyProof.StrLawsReplace
import KE.IntTextLaws
set_option Elab.async false
set_option linter.all false
set_option maxRecDepth 100000
set_option maxHeartbeats 4000000
/-! MINI, part 1: the values, the store, the evaluator. -/
namespace MI
open PySem

/-- a value of the small language -/
inductive D where
  | non
  | bl (b : Bool)
  | int (i : Int)
  | str (s : Str)
  | tup (ds : List D)
  | loc (l : Nat)
  | fn (f : Nat)
  | clo (k : Nat) (ls : List Nat)

/-- what stands in the store -/
inductive Ob where
  | lst (ds : List D)
  | fro (ds : List D)
  | dct (kvs : List (D × D))
  | ins (c : Nat) (fs : List (Str × D))
  | cell (d : Option D)

abbrev Store := List Ob

structure Ex where
  cls : Nat
  what : D

inductive Res (α : Type) where
  | ok (a : α) (st : Store)
  | ex (x : Ex) (st : Store)
  | no

abbrev M (α : Type) := Store → Res α
def ret {α : Type} (a : α) : M α := fun st => .ok a st
def no {α : Type} : M α := fun _ => .no
def bnd {α β : Type} (m : M α) (f : α → M β) : M β := fun st => match m st with
  | .ok a st' => f a st'
  | .ex x st' => .ex x st'
  | .no => .no
def ofO {α : Type} (o : Option α) : M α := fun st => match o with
  | some a => .ok a st
  | none => .no
def guard (b : Bool) : M Unit := fun st => match b with
  | true => .ok () st
  | false => .no

/-- a frame: the slots, the captured ones with their cells -/
structure Fr where
  ρ : List (Option D)
  cp : List (Nat × Nat) := []

inductive Bop where | add | sub | mul | fdiv | mod | pow
inductive Cop where | eq | ne | lt | le | gt | ge | is | isnot | isin | notin

/-! ### operations on values -/
def isScal : D → Bool
  | .non => true
  | .bl _ => true
  | .int _ => true
  | .str _ => true
  | _ => false
/-- flat ones compared: none where the sorts are not served -/
def eqScal : D → D → Option Bool
  | .non, .non => some true
  | .non, .int _ => some false
  | .int _, .non => some false
  | .non, .bl _ => some false
  | .bl _, .non => some false
  | .non, .str _ => some false
  | .str _, .non => some false
  | .int a, .int b => some (decide (a = b))
  | .bl a, .bl b => some (decide (a = b))
  | .str a, .str b => some (decide (a = b))
  | .int _, .str _ => some false
  | .str _, .int _ => some false
  | .bl _, .str _ => some false
  | .str _, .bl _ => some false
  | _, _ => none
/-- == of flat ones, as `in` has it -/
def eqFlat : D → D → Bool
  | .non, .non => true
  | .bl a, .bl b => a == b
  | .bl a, .int b => (if a then 1 else 0) == b
  | .int a, .bl b => a == (if b then 1 else 0)
  | .int a, .int b => a == b
  | .str a, .str b => a == b
  | _, _ => false
/-- a sequence in the store or a tuple -/
def seqOf (d : D) : M (List D) := fun st => match d with
  | .tup ds => .ok ds st
  | .loc l => match st[l]? with
    | some (.lst ds) => .ok ds st
    | some (.fro ds) => .ok ds st
    | _ => .no
  | _ => .no
def alloc (o : Ob) : M D := fun st => .ok (.loc st.length) (st ++ [o])
def setAt (l : Nat) (o : Ob) : M Unit := fun st => .ok () (st.set l o)

def smallMul (i j : Int) : Bool := (decide (-(2 ^ 64) < i) && decide (i < 2 ^ 64)) || (decide (-(2 ^ 64) < j) && decide (j < 2 ^ 64))
def binop (op : Bop) (a b : D) : M D := match op, a, b with
  | .add, .int i, .int j => ret (.int (i + j))
  | .sub, .int i, .int j => ret (.int (i - j))
  | .mul, .int i, .int j => bnd (guard (smallMul i j)) fun _ => ret (.int (i * j))
  | .fdiv, .int i, .int j => bnd (guard (decide (0 < j) && decide (j < 2 ^ 64))) fun _ => ret (.int (i / j))
  | .mod, .int i, .int j => bnd (guard (decide (0 < j))) fun _ => ret (.int (i % j))
  | .pow, .int i, .int j => bnd (guard (decide (0 ≤ j) && decide (j ≤ 1000000) && decide (i.natAbs < 2 ^ 64))) fun _ => ret (.int (i ^ j.toNat))
  | .add, .str i, .str j => bnd (guard (decide (i.length + j.length ≤ sizeLine))) fun _ => ret (.str (i ++ j))
  | .add, .tup xs, .tup ys => bnd (guard (decide (xs.length + ys.length ≤ sizeLine))) fun _ => ret (.tup (xs ++ ys))
  | .add, .loc l, .loc k => fun st => match st[l]?, st[k]? with
    | some (.lst xs), some (.lst ys) => bnd (guard (decide (xs.length + ys.length ≤ sizeLine))) (fun _ => alloc (.lst (xs ++ ys))) st
    | _, _ => .no
  | .mul, .loc l, .int k => fun st => match st[l]? with
    | some (.lst xs) => bnd (guard (decide (-(2 ^ 63) ≤ k) && decide (k < 2 ^ 63) && decide (xs.length * k.toNat ≤ sizeLine))) (fun _ => alloc (.lst (List.replicate k.toNat xs).flatten)) st
    | _ => .no
  | .mul, .str s, .int k => bnd (guard (decide (1 ≤ k) && decide (s.length * k.toNat ≤ sizeLine) && decide (k < 2 ^ 32))) fun _ => ret (.str ⟨(List.replicate k.toNat s.cps.toList).flatten.toArray⟩)
  | _, _, _ => no

def isNonB : D → Bool
  | .non => true
  | _ => false
/-- data, to a depth -/
def allO (f : D → Option PyData) : List D → Option (List PyData)
  | [] => some []
  | d :: r => match f d, allO f r with
    | some x, some xs => some (x :: xs)
    | _, _ => none
def dataOf (st : Store) : Nat → D → Option PyData
  | 0, _ => none
  | n + 1, d => match d with
    | .non => some .none
    | .bl b => some (.bool b)
    | .int i => some (.int i)
    | .str s => some (.str s)
    | .tup ds => (allO (dataOf st n) ds).map .tuple
    | .loc l => match st[l]? with
      | some (.lst ds) => (allO (dataOf st n) ds).map .list
      | some (.fro ds) => (allO (dataOf st n) ds).map .list
      | _ => none
    | _ => none
def eqD (a b : D) : M Bool := match eqScal a b with
  | some r => ret r
  | none => fun st => match dataOf st 9 a, dataOf st 9 b with
    | some p, some q => if (SeqAt.shaped p && SeqAt.shaped q) = true then .ok (PyData.eqv p q) st else .no
    | _, _ => .no
def cmpop (op : Cop) (a b : D) : M D := match op with
  | .eq => bnd (eqD a b) fun r => ret (.bl r)
  | .ne => bnd (eqD a b) fun r => ret (.bl (!r))
  | .lt => match a, b with
    | .int i, .int j => ret (.bl (decide (i < j)))
    | _, _ => no
  | .le => match a, b with
    | .int i, .int j => ret (.bl (decide (i ≤ j)))
    | _, _ => no
  | .gt => match a, b with
    | .int i, .int j => ret (.bl (decide (j < i)))
    | _, _ => no
  | .ge => match a, b with
    | .int i, .int j => ret (.bl (decide (j ≤ i)))
    | _, _ => no
  | .is => match b with
    | .non => ret (.bl (isNonB a))
    | .bl y => match a with
      | .bl x => ret (.bl (x == y))
      | .non => ret (.bl false)
      | .int _ => ret (.bl false)
      | .str _ => ret (.bl false)
      | .tup _ => ret (.bl false)
      | .loc _ => ret (.bl false)
      | _ => no
    | _ => no
  | .isnot => match b with
    | .non => ret (.bl (!isNonB a))
    | _ => no
  | .isin => match a, b with
    | .str x, .str y => bnd (guard (decide (x.length = 1))) fun _ => ret (.bl (decide (x.cps.getD 0 0 ∈ y.cps.toList)))
    | a, b => bnd (seqOf b) fun ds => bnd (guard (isScal a && ds.all isScal)) fun _ => ret (.bl (ds.any fun y => eqFlat y a))
  | .notin => match a, b with
    | .str x, .str y => bnd (guard (decide (x.length = 1))) fun _ => ret (.bl (!decide (x.cps.getD 0 0 ∈ y.cps.toList)))
    | a, b => bnd (seqOf b) fun ds => bnd (guard (isScal a && ds.all isScal)) fun _ => ret (.bl (!(ds.any fun y => eqFlat y a)))
end MI

set_option Elab.async false
set_option linter.all false
set_option maxRecDepth 100000
set_option maxHeartbeats 4000000
/-! MINI, part 2: the language, the evaluator. -/
namespace MI
open PySem

inductive Ty where | int | bool | str | tuple | list | dict | float | own (c : Nat)
inductive Bi where | len | int | str | max2 | min2 | tuple | list | any | all
inductive Ik where | seq | rng1 | rng2 | enum | zip | items
/-- a target: a slot, or a tuple of targets -/
inductive Tg where
  | nm (i : Nat)
  | nil
  | cons (a b : Tg)
  | tup (a : Tg)
/-- an expression; argument lists are nil, cons -/
inductive CE where
  | var (i : Nat)
  | c (d : D)
  | gv (x : Str) (d : D)
  | bin (op : Bop) (a b : CE)
  | cmp (op : Cop) (a b : CE)
  | chain (op op' : Cop) (a b c : CE)
  | neg (a : CE)
  | not (a : CE)
  | and (a b : CE)
  | or (a b : CE)
  | ife (c a b : CE)
  | nil
  | cons (a b : CE)
  | tup (a : CE)
  | lst (a : CE)
  | idx (a b : CE)
  | sl (a : CE) (lo hi : CE)
  | part (a : CE)
  | attr (a : CE) (f : Str)
  | call (x : Str) (f : Nat) (as : CE)
  | callv (i : Nat) (as : CE)
  | make (x : Str) (c : Nat) (as : CE)
  | meth (o : CE) (m : Str) (as : CE)
  | bi (b : Bi) (as : CE)
  | isi (a : CE) (T : Ty)
  | lc (k : Ik) (a b : CE) (tg : Tg) (cond elt : CE)
  | lam (k : Nat) (caps : List Nat)
  | consT (s : Str) (b : CE)
  | consU (a b : CE)
  | rep (o : CE) (y z : Str) (b : CE)
  | yes
inductive CS where
  | skip
  | seq (a b : CS)
  | asg (t : Tg) (e : CE)
  | setf (o : CE) (f : Str) (e : CE)
  | augf (o : CE) (f : Str) (op : Bop) (e : CE)
  | aug (i : Nat) (op : Bop) (e : CE)
  | seti (o i e : CE)
  | ex (e : CE)
  | ite (c : CE) (a b : CS)
  | for (k : Ik) (a b : CE) (tg : Tg) (body : CS)
  | whl (c : CE) (body : CS)
  | ret (e : CE)
  | retn
  | brk
  | cnt
  | raise (x : Str) (c : Nat) (as : CE)

structure Code where
  arity : Nat
  nslot : Nat
  caps : List Nat
  body : CS
inductive FB where
  | code (c : Code)
  | heard (names : List (Nat × List (Str × Bool)))
structure Fn where
  path : Str × Option Str
  fb : FB
structure Lm where
  arity : Nat
  nfree : Nat
  body : CE
structure Cl where
  name : Str
  init : Nat
  meths : List (Str × Nat)
  flds : List Str
structure GP where
  funs : List Fn
  lams : List Lm
  cls : List Cl
  xcs : List Str
  cints : List (Str × Int)
  cstrs : List (Str × Str)
  cfree : List Str
/-- f is an attribute of the class c, by its list -/
def fldOk (G : GP) (c : Nat) (f : Str) : Bool := match G.cls[c]? with
  | some C => C.flds.contains f
  | none => false

/-! ### values -/
def typOf (d : D) (st : Store) : Option Ty := match d with
  | .bl _ => some .bool
  | .int _ => some .int
  | .str _ => some .str
  | .tup _ => some .tuple
  | .loc l => match st[l]? with
    | some (.lst _) => some .list
    | some (.fro _) => some .list
    | some (.dct _) => some .dict
    | some (.ins c _) => some (.own c)
    | _ => none
  | _ => none
def isiTy (t T : Ty) : Option Bool := match T with
  | .int => match t with
    | .int => some true
    | .bool => some true
    | .own _ => none
    | _ => some false
  | .own _ => none
  | .bool => match t with
    | .bool => some true
    | .own _ => none
    | _ => some false
  | .str => match t with
    | .str => some true
    | .own _ => none
    | _ => some false
  | .tuple => match t with
    | .tuple => some true
    | .own _ => none
    | _ => some false
  | .list => match t with
    | .list => some true
    | .own _ => none
    | _ => some false
  | .dict => match t with
    | .dict => some true
    | .own _ => none
    | _ => some false
  | .float => match t with
    | .float => some true
    | .own _ => none
    | _ => some false
def isiD (d : D) (T : Ty) : M D := fun st => match d with
  | .non => match T with
    | .own _ => .no
    | _ => .ok (.bl false) st
  | d => match typOf d st with
    | some t => match isiTy t T with
      | some b => .ok (.bl b) st
      | none => .no
    | none => .no
def strsOf : List D → Option (List Str)
  | [] => some []
  | .str s :: r => (strsOf r).map (s :: ·)
  | _ :: _ => none
def boolsOf : List D → Option (List Bool)
  | [] => some []
  | .bl s :: r => (boolsOf r).map (s :: ·)
  | _ :: _ => none
def biop (b : Bi) (as : List D) : M D := match b, as with
  | .len, [.str s] => bnd (guard (decide (s.length ≤ sizeLine))) fun _ => ret (.int s.length)
  | .len, [d] => bnd (seqOf d) fun ds => ret (.int ds.length)
  | .int, [.int i] => ret (.int i)
  | .int, [.bl k] => ret (.int (if k then 1 else 0))
  | .int, [.str s] => match intText? s with
    | some n => bnd (guard (decide (s.length ≤ 640))) fun _ => ret (.int n)
    | none => no
  | .str, [.int i] => bnd (guard (decide (i.natAbs.log2 < 1920))) fun _ => ret (.str (toString i))
  | .max2, [.int i, .int j] => ret (.int (if j > i then j else i))
  | .min2, [.int i, .int j] => ret (.int (if j < i then j else i))
  | .tuple, [d] => bnd (seqOf d) fun ds => ret (.tup ds)
  | .list, [d] => bnd (seqOf d) fun ds => alloc (.lst ds)
  | .any, [.loc l] => bnd (seqOf (.loc l)) fun ds => bnd (ofO (boolsOf ds)) fun bs => ret (.bl (bs.any id))
  | .all, [.loc l] => bnd (seqOf (.loc l)) fun ds => bnd (ofO (boolsOf ds)) fun bs => ret (.bl (bs.all id))
  | _, _ => no
def cutL {α : Type} (xs : List α) (lo hi : Option Int) : List α := (xs.drop (HT.sIx xs.length 0 lo)).take (HT.sIx xs.length xs.length hi - HT.sIx xs.length 0 lo)
def idxD (a b : D) : M D := match b with
  | .int i => match a with
    | .str s => bnd (guard (decide (s.length ≤ sizeLine))) fun _ => match L2.atI s.cps.toList i with
      | some c => ret (.str ⟨#[c]⟩)
      | none => no
    | a => bnd (seqOf a) fun ds => ofO (L2.atI ds i)
  | _ => no
def partOf : D → Option (Option Int)
  | .non => some none
  | .int i => some (some i)
  | _ => none
def sliD (a lo hi : D) : M D := match partOf lo, partOf hi with
  | some l, some h => match a with
    | .str s => bnd (guard (decide (s.length ≤ sizeLine))) fun _ => ret (.str (L2.cutS s l h))
    | .tup ds => ret (.tup (cutL ds l h))
    | .loc k => bnd (seqOf (.loc k)) fun ds => alloc (.lst (cutL ds l h))
    | _ => no
  | _, _ => no
def attrD (G : GP) (a : D) (f : Str) : M D := fun st => match a with
  | .loc l => match st[l]? with
    | some (.ins c fs) => match (if fldOk G c f = true then fs.lookup f else none) with
      | some d => .ok d st
      | none => .no
    | _ => .no
  | _ => .no
def setF (fs : List (Str × D)) (f : Str) (d : D) : List (Str × D) := match fs with
  | [] => [(f, d)]
  | (g, e) :: r => if g = f then (g, d) :: r else (g, e) :: setF r f d
def setfD (G : GP) (a : D) (f : Str) (d : D) : M Unit := fun st => match a with
  | .loc l => match st[l]? with
    | some (.ins c fs) => if fs.length < 1000 ∧ fldOk G c f = true then .ok () (st.set l (.ins c (setF fs f d))) else .no
    | _ => .no
  | _ => .no
def setiD (o i d : D) : M Unit := fun st => match o, i with
  | .loc l, .int k => match st[l]? with
    | some (.lst xs) => match L2.ixN xs.length k with
      | some j => .ok () (st.set l (.lst (xs.set j d)))
      | none => .no
    | _ => .no
  | _, _ => .no
inductive Sm where | upper | split | join
inductive Lm' where | append | extend | pop
def smOf (m : Str) : Option Sm := if m = "upper" then some .upper else if m = "split" then some .split else if m = "join" then some .join else none
def lmOf (m : Str) : Option Lm' := if m = "append" then some .append else if m = "extend" then some .extend else if m = "pop" then some .pop else none
def strM (m : Sm) (s : Str) (as : List D) : M D := match m, as with
  | .upper, [] => bnd (guard (decide (s.length ≤ 5592405))) fun _ => ret (.str (PySem.Txt.upper s))
  | .split, [.str b] => bnd (guard (!(b.length == 0) && decide (s.length + 2 ≤ sizeLine))) fun _ => alloc (.lst ((PySem.Txt.split s b).map .str))
  | .join, [d] => bnd (seqOf d) fun ds => bnd (ofO (strsOf ds)) fun ys => bnd (guard (decide ((ys.map (·.length)).sum + ys.length * s.length ≤ 16777216))) fun _ => ret (.str (PySem.Txt.join s ys))
  | _, _ => no
def extD (l : Nat) (xs : List D) (y : D) : M D := fun st => match y with
  | .loc k => match st[k]? with
    | some (.lst zs) => bnd (guard (decide (xs.length + zs.length ≤ sizeLine))) (fun _ => bnd (setAt l (.lst (xs ++ zs))) fun _ => ret .non) st
    | _ => .no
  | _ => .no
def popD (l : Nat) (xs : List D) (k : Option Nat) : M D := match k with
  | some k => match xs[k]? with
    | some z => bnd (setAt l (.lst (xs.eraseIdx k))) fun _ => ret z
    | none => no
  | none => no
def lstM (m : Lm') (l : Nat) (xs : List D) (as : List D) : M D := match m, as with
  | .pop, [] => match xs.getLast? with
    | some y => bnd (setAt l (.lst xs.dropLast)) fun _ => ret y
    | none => no
  | .append, [y] => bnd (guard (decide (xs.length < sizeLine))) fun _ => bnd (setAt l (.lst (xs ++ [y]))) fun _ => ret .non
  | .extend, [y] => extD l xs y
  | .pop, [.int i] => bnd (guard (decide (-(2 ^ 63) ≤ i) && decide (i < 2 ^ 63))) fun _ => popD l xs (seqIndex? i xs.length)
  | _, _ => no

/-- op=, of ints -/
def augop (op : Bop) (a b : D) : M D := match op, a, b with
  | .add, .int i, .int j => ret (.int (i + j))
  | .sub, .int i, .int j => ret (.int (i - j))
  | _, _, _ => no

/-! ### frames -/
def Fr.set (fr : Fr) (i : Nat) (d : D) : M Fr := fun st => match fr.cp.lookup i with
  | some l => .ok { fr with ρ := fr.ρ.set i (some d) } (st.set l (.cell (some d)))
  | none => .ok { fr with ρ := fr.ρ.set i (some d) } st
def bindT : Tg → D → Fr → M Fr
  | .nm i, d, fr => fr.set i d
  | .nil, .tup [], fr => ret fr
  | .cons a b, .tup (x :: xs), fr => bnd (bindT a x fr) fun fr' => bindT b (.tup xs) fr'
  | .tup a, .tup ds, fr => bindT a (.tup ds) fr
  | _, _, _ => no
def Tg.slots : Tg → List Nat
  | .nm i => [i]
  | .nil => []
  | .cons a b => a.slots ++ b.slots
  | .tup a => a.slots
def wipeL (ρ : List (Option D)) : List Nat → List (Option D)
  | [] => ρ
  | v :: vs => (wipeL ρ vs).set v none

/-- the cells of captured slots -/
def capsL (cp : List (Nat × Nat)) : List Nat → Option (List Nat)
  | [] => some []
  | i :: r => match cp.lookup i, capsL cp r with
    | some l, some ls => some (l :: ls)
    | _, _ => none

/-! ### walks -/
open Classical in
/-- the lists that are walked stand as they stood -/
noncomputable def chk : List (Nat × List D) → M Unit
  | [] => ret ()
  | (l, ds) :: r => fun st => if st[l]? = some (.lst ds) ∨ st[l]? = some (.fro ds) then chk r st else .no
def smallI (i : Int) : Bool := decide (-(2 ^ 62) ≤ i) && decide (i < 2 ^ 62)
def rngL (i j : Int) : List D := (List.range (j - i).toNat).map fun (k : Nat) => D.int (i + k)
def enumL : Nat → List D → List D
  | _, [] => []
  | i, d :: r => .tup [.int i, d] :: enumL (i + 1) r
def zipL : List D → List D → List D
  | a :: r, b :: s => .tup [a, b] :: zipL r s
  | _, _ => []
def srcOf (d : D) : M (List D × List (Nat × List D)) := fun st => match d with
  | .tup ds => .ok (ds, []) st
  | .loc l => match st[l]? with
    | some (.lst ds) => .ok (ds, [(l, ds)]) st
    | some (.fro ds) => .ok (ds, [(l, ds)]) st
    | _ => .no
  | .str s => .ok (s.cps.toList.map fun c => .str ⟨#[c]⟩, []) st
  | _ => .no
def itOf (k : Ik) (x y : D) : M (List D × List (Nat × List D)) := match k with
  | .seq => srcOf x
  | .rng1 => match x with
    | .int j => bnd (guard (smallI j)) fun _ => ret (rngL 0 j, [])
    | _ => no
  | .rng2 => match x, y with
    | .int i, .int j => bnd (guard (smallI i && smallI j)) fun _ => ret (rngL i j, [])
    | _, _ => no
  | _ => no

def lcGo (f : D → M (Option D)) (ck : M Unit) : List D → M (List D)
  | [] => bnd ck fun _ => ret []
  | d :: r => bnd ck fun _ => bnd (f d) fun o => bnd (lcGo f ck r) fun ds => ret (match o with
    | some x => x :: ds
    | none => ds)
def tst (d : D) : M Bool := match d with
  | .bl b => ret b
  | _ => no

/-- a value ahead of a list of values -/
def consD (x y : D) : M D := match y with
  | .tup ys => ret (.tup (x :: ys))
  | _ => no
def repD (y z : Str) (x : D) : M D := match x with
  | .str s => bnd (guard (decide (s.length + (s.length + 1) * z.length ≤ 16777216))) fun _ => ret (.str (PySem.Txt.replace s y z))
  | _ => no
section
variable (G : GP) (cf : Nat → List D → M D) (cc : Nat → List Nat → List D → M D)
def callV (d : D) (as : List D) : M D := match d with
  | .fn f => cf f as
  | .clo k ls => cc k ls as
  | _ => no
def methD (o : D) (m : Str) (as : List D) : M D := match o with
  | .str s => match smOf m with
    | some k => strM k s as
    | none => no
  | .loc l => fun st => match st[l]? with
    | some (.lst xs) => match lmOf m with
      | some k => lstM k l xs as st
      | none => .no
    | some (.ins c _) => match G.cls[c]? with
      | some C => match C.meths.lookup m with
        | some f => cf f (o :: as) st
        | none => .no
      | none => .no
    | _ => .no
  | _ => no
/-- there is such a method -/
def methOk (o : D) (m : Str) : M Unit := match o with
  | .str _ => guard (smOf m).isSome
  | .loc l => fun st => match st[l]? with
    | some (.lst _) => guard (lmOf m).isSome st
    | some (.ins c fs) => match G.cls[c]? with
      | some C => guard ((fs.lookup m).isNone && (C.meths.lookup m).isSome) st
      | none => .no
    | _ => .no
  | _ => no
def makeD (c : Nat) (as : List D) : M D := match G.cls[c]? with
  | some C => bnd (alloc (.ins c [])) fun d => bnd (cf C.init (d :: as)) fun r => match r with
    | .non => ret d
    | _ => no
  | none => no
noncomputable def ev : CE → Fr → M D
  | .var i, fr => fun st => match fr.ρ[i]? with
    | some (some d) => .ok d st
    | _ => .no
  | .c d, _ => ret d
  | .gv _ d, _ => ret d
  | .bin op a b, fr => bnd (ev a fr) fun x => bnd (ev b fr) fun y => binop op x y
  | .cmp op a b, fr => bnd (ev a fr) fun x => bnd (ev b fr) fun y => cmpop op x y
  | .chain op op' a b c, fr => bnd (ev a fr) fun x => bnd (ev b fr) fun y => bnd (cmpop op x y) fun z => bnd (tst z) fun t => match t with
    | true => bnd (ev c fr) fun w => cmpop op' y w
    | false => ret (.bl false)
  | .neg a, fr => bnd (ev a fr) fun x => match x with
    | .int i => ret (.int (-i))
    | _ => no
  | .not a, fr => bnd (ev a fr) fun x => bnd (tst x) fun b => ret (.bl (!b))
  | .and a b, fr => bnd (ev a fr) fun x => bnd (tst x) fun t => match t with
    | true => ev b fr
    | false => ret (.bl false)
  | .or a b, fr => bnd (ev a fr) fun x => bnd (tst x) fun t => match t with
    | true => ret (.bl true)
    | false => ev b fr
  | .ife c a b, fr => bnd (ev c fr) fun x => bnd (tst x) fun t => match t with
    | true => ev a fr
    | false => ev b fr
  | .nil, _ => ret (.tup [])
  | .cons a b, fr => bnd (ev a fr) fun x => bnd (ev b fr) fun y => match y with
    | .tup ys => ret (.tup (x :: ys))
    | _ => no
  | .tup a, fr => bnd (ev a fr) fun y => match y with
    | .tup ys => bnd (guard (decide (ys.length ≤ sizeLine))) fun _ => ret (.tup ys)
    | _ => no
  | .lst a, fr => bnd (ev a fr) fun y => match y with
    | .tup ys => bnd (guard (decide (ys.length ≤ sizeLine))) fun _ => alloc (.lst ys)
    | _ => no
  | .idx a b, fr => bnd (ev a fr) fun x => bnd (ev b fr) fun y => idxD x y
  | .part a, fr => bnd (ev a fr) fun x => match x with
    | .int i => ret (.int i)
    | _ => no
  | .sl a lo hi, fr => bnd (ev a fr) fun x => bnd (ev lo fr) fun l => bnd (ev hi fr) fun h => sliD x l h
  | .attr a f, fr => bnd (ev a fr) fun x => attrD G x f
  | .call _ f as, fr => bnd (ev as fr) fun y => match y with
    | .tup ys => cf f ys
    | _ => no
  | .callv i as, fr => fun st => match fr.ρ[i]? with
    | some (some d) => bnd (ev as fr) (fun y => match y with
      | .tup ys => callV cf cc d ys
      | _ => no) st
    | _ => .no
  | .make _ c as, fr => bnd (ev as fr) fun y => match y with
    | .tup ys => makeD G cf c ys
    | _ => no
  | .meth o m as, fr => bnd (ev o fr) fun x => bnd (methOk G x m) fun _ => bnd (ev as fr) fun y => match y with
    | .tup ys => methD G cf x m ys
    | _ => no
  | .bi b as, fr => bnd (ev as fr) fun y => match y with
    | .tup ys => biop b ys
    | _ => no
  | .isi a T, fr => bnd (ev a fr) fun x => isiD x T
  | .lc k a b tg cond elt, fr => bnd (ev a fr) fun x => bnd (ev b fr) fun y => bnd (itOf k x y) fun it => bnd (guard (decide (it.1.length ≤ sizeLine))) fun _ =>
    bnd (lcGo (fun d => bnd (bindT tg d { ρ := wipeL fr.ρ tg.slots, cp := [] }) fun fr' => bnd (ev cond fr') fun z => bnd (tst z) fun t => match t with
      | true => bnd (ev elt fr') fun w => ret (some w)
      | false => ret none) (chk it.2) it.1) fun ds => alloc (.lst ds)
  | .lam k caps, fr => match capsL fr.cp caps with
    | some ls => ret (.clo k ls)
    | none => no
  | .consT s b, fr => bnd (ret (.str s)) fun x => bnd (ev b fr) fun y => consD x y
  | .consU a b, fr => bnd (ev a fr) fun x => bnd (ev b fr) fun y => consD x y
  | .rep o y z b, fr => bnd (bnd (ev o fr) (repD y z)) fun x => bnd (ev b fr) fun y => consD x y
  | .yes, _ => ret (.bl true)

inductive Out where
  | nx (fr : Fr)
  | rt (d : D)
  | bk (fr : Fr)
  | ct (fr : Fr)
  | xx (x : Ex) (fr : Fr)
/-- a statement's end; none: it is stuck -/
abbrev S := Store → Option (Out × Store)
/-- an expression in a frame, then -/
def exS {α : Type} (m : M α) (fr : Fr) (f : α → S) : S := fun st => match m st with
  | .ok a st' => f a st'
  | .ex x st' => some (.xx x fr, st')
  | .no => none
def nxS (fr : Fr) : S := fun st => some (.nx fr, st)
def loopMost : Nat := 10000000
def forGo (ck : M Unit) (turn : D → Fr → S) : List D → Fr → S
  | [], fr => exS ck fr fun _ => nxS fr
  | d :: r, fr => exS ck fr fun _ st => match turn d fr st with
    | some (.nx fr', st') => forGo ck turn r fr' st'
    | some (.ct fr', st') => forGo ck turn r fr' st'
    | some (.bk fr', st') => some (.nx fr', st')
    | o => o
def whlGo (c : Fr → M Bool) (turn : Fr → S) : Nat → Fr → S
  | 0, _ => fun _ => none
  | n + 1, fr => exS (c fr) fr fun t st => match t with
    | false => some (.nx fr, st)
    | true => match turn fr st with
      | some (.nx fr', st') => whlGo c turn n fr' st'
      | some (.ct fr', st') => whlGo c turn n fr' st'
      | some (.bk fr', st') => some (.nx fr', st')
      | o => o
noncomputable def evs : CS → Fr → S
  | .skip, fr => nxS fr
  | .seq a b, fr => fun st => match evs a fr st with
    | some (.nx fr', st') => evs b fr' st'
    | o => o
  | .asg t e, fr => exS (bnd (ev G cf cc e fr) fun d => bindT t d fr) fr fun fr' => nxS fr'
  | .setf o f e, fr => exS (bnd (ev G cf cc e fr) fun d => bnd (ev G cf cc o fr) fun x => setfD G x f d) fr fun _ => nxS fr
  | .augf o f op e, fr => exS (bnd (ev G cf cc o fr) fun x => bnd (attrD G x f) fun y => bnd (ev G cf cc e fr) fun z => bnd (augop op y z) fun d => setfD G x f d) fr fun _ => nxS fr
  | .aug i op e, fr => exS (bnd (ofO (fr.ρ[i]?.join)) fun x => bnd (ev G cf cc e fr) fun y => bnd (augop op x y) fun z => fr.set i z) fr fun fr' => nxS fr'
  | .seti o i e, fr => exS (bnd (ev G cf cc e fr) fun d => bnd (ev G cf cc o fr) fun x => bnd (ev G cf cc i fr) fun k => setiD x k d) fr fun _ => nxS fr
  | .ex e, fr => exS (ev G cf cc e fr) fr fun _ => nxS fr
  | .ite c a b, fr => exS (bnd (ev G cf cc c fr) tst) fr fun t => match t with
    | true => evs a fr
    | false => evs b fr
  | .for k a b tg body, fr => exS (bnd (ev G cf cc a fr) fun x => bnd (ev G cf cc b fr) fun y => itOf k x y) fr fun it =>
      forGo (chk it.2) (fun d fr1 => exS (bindT tg d fr1) fr1 fun fr2 => evs body fr2) it.1 fr
  | .whl c body, fr => whlGo (fun fr1 => bnd (ev G cf cc c fr1) tst) (fun fr1 => evs body fr1) loopMost fr
  | .ret e, fr => exS (ev G cf cc e fr) fr fun d st => some (.rt d, st)
  | .retn, _ => fun st => some (.rt .non, st)
  | .brk, fr => fun st => some (.bk fr, st)
  | .cnt, fr => fun st => some (.ct fr, st)
  | .raise _ c as, fr => exS (ev G cf cc as fr) fr fun y st => match y with
    | .tup [d] => some (.xx ⟨c, d⟩ fr, st)
    | _ => none
end

def ofOut (o : Option (Out × Store)) : Res D := match o with
  | some (.nx _, st) => .ok .non st
  | some (.rt d, st) => .ok d st
  | some (.xx x _, st) => .ex x st
  | _ => .no
def cellsAt (st : Store) : List Nat → Option (List D)
  | [] => some []
  | l :: r => match st[l]? with
    | some (.cell (some d)) => (cellsAt st r).map (d :: ·)
    | _ => none
def startF (c : Code) (as : List D) : List (Option D) := as.map some ++ List.replicate (c.nslot - as.length) none
def capsFrom (n : Nat) : List Nat → List (Nat × Nat)
  | [] => []
  | i :: r => (i, n) :: capsFrom (n + 1) r
/-- a frame's own cells, at its end -/
def killC (st : Store) (n : Nat) : Nat → Store
  | 0 => st
  | k + 1 => (killC st n k).set (n + k) (.cell none)
def endF {α : Type} (n k : Nat) (r : Res α) : Res α := match r with
  | .ok d st => .ok d (killC st n k)
  | .ex x st => .ex x (killC st n k)
  | .no => .no
def heardD (names : List (Nat × List (Str × Bool))) (r : Res D) : Res D := match r with
  | .ok d st => .ok (.tup [.str "told", d]) st
  | .ex x st => match names.lookup x.cls with
    | some qs => (match strM .join " " [.loc (st.length + 1)] (st ++ [.lst (qs.map fun q => .tup [.str q.1, .bl q.2]), .lst ((qs.filter (·.2)).map fun q => .str q.1)]) with
      | .ok z st' => .ok (.tup [z, x.what]) st'
      | _ => .no)
    | none => .no
  | .no => .no
noncomputable def runCode (G : GP) (cf : Nat → List D → M D) (cc : Nat → List Nat → List D → M D) (c : Code) (as : List D) : M D := fun st =>
  if as.length = c.arity then endF st.length c.caps.length (ofOut (evs G cf cc c.body ⟨startF c as, capsFrom st.length c.caps⟩ (st ++ c.caps.map fun i => Ob.cell ((startF c as)[i]?.join)))) else .no
noncomputable def runLam (G : GP) (cf : Nat → List D → M D) (cc : Nat → List Nat → List D → M D) (L : Lm) (ls : List Nat) (as : List D) : M D := fun st =>
  if as.length = L.arity ∧ ls.length = L.nfree then (match cellsAt st ls with
    | some ds => ev G cf cc L.body ⟨(as ++ ds).map some, []⟩ st
    | none => .no) else .no
/-- calls to a depth: a def's, a closure's -/
noncomputable def calls (G : GP) : Nat → (Nat → List D → M D) × (Nat → List Nat → List D → M D)
  | 0 => (fun _ _ => no, fun _ _ _ => no)
  | n + 1 => (fun f as => match G.funs[f]? with
      | some ⟨_, .code c⟩ => runCode G (calls G n).1 (calls G n).2 c as
      | some ⟨_, .heard names⟩ => (match as with
        | [.clo k ls] => fun st => heardD names ((calls G n).2 k ls [] st)
        | _ => no)
      | none => no,
    fun k ls as => match G.lams[k]? with
      | some L => runLam G (calls G n).1 (calls G n).2 L ls as
      | none => no)
end MI

set_option Elab.async false
set_option linter.all false
set_option maxRecDepth 100000
set_option maxHeartbeats 8000000
/-! MINI, part D: what the head's run looks at. -/
namespace MI
open PySem PySem.Spec PyProof.Rows L2
def glB (sc : Scope) (x : Str) : Bool := match sc.names.lookup x with
  | some .globalImplicit => true
  | _ => false
def nmB (x : Str) : Bool := !(x == ("__debug__" : Str)) && !(x == ("__classdict__" : Str))
/-- parameters without defaults, in order -/
def plainA (a : Arguments) (ps : List Str) : Bool := match a with
  | ⟨[], as, none, [], [], none, []⟩ => decide (as.map (·.arg) = ps)
  | _ => false
/-- a method that says super(): its cells, its code object -/
def supB (prog : Program) (K : PySem.W.Frag) (f D : Addr) : Bool := match K.lookup f with
  | some ⟨_, _, .func fd, _⟩ => (match fd.params.posonlyargs ++ fd.params.args with
      | ar :: _ => decide (ar.arg = "self")
      | [] => false) && (match fd.code with
      | .ref c => (match K.lookup c with
        | some ⟨_, _, .fields vs, _⟩ => (match (vs[2]? : Option Value) with
          | some (.str file _) => (prog.main.file : Str) == file
          | _ => false)
        | _ => false)
      | _ => false) && (match fd.closure with
      | [(n, cc)] => decide (n = "__class__") && (match K.lookup cc with
        | some ⟨_, _, .cell (some (.ref E)), _⟩ => decide (E = D)
        | _ => false)
      | _ => false) && (PySem.W.clsIn K D).isSome && decide (fd.scope.names.lookup ("super" : Str) = some .globalImplicit) && decide (fd.scope.names.lookup ("__class__" : Str) = some .free) && decide (fd.scope.names.lookup ("self" : Str) = some .local) && decide (fd.scope.kind = .function) &&
      PySem.W.codeIn K fd.code fd.qualname && !fd.scope.isCoroutine && !fd.scope.isGenerator && (fd.scope.names.all fun y => !decide (y.2 = .cell)) && decide (fd.scope.names.lookup ("what" : Str) = some .local) && decide (fd.globals = mainGlobals) && decide (fd.builtins = builtinsNs)
  | _ => false
/-- Refused's __init__ -/
def refBody (b : FuncBody) : Bool := match b with
  | .stmts [.Expr (.Call (.Attribute (.Call (.Name s _) [] [] _) i p2) [.Name u _] [] p4) _, .Assign [.Attribute (.Name v _) g _] (.Name u' _) _, .Assign [.Attribute (.Name v' _) g' _] (.Name u'' _) _] =>
    decide (s = "super") && decide (i = "__init__") && decide (u = "what") && decide (v = "self") && decide (g = "what") && decide (u' = "what") && decide (v' = "self") && decide (g' = "word") && decide (u'' = "word") && (p2.endLine == p4.line)
  | _ => false
def xcBody (nm : Str) (b : FuncBody) : Bool := match b with
  | .stmts [.Expr (.Call (.Attribute (.Call (.Name s _) [] [] _) i p2) [.Name u _, .Constant (.str z) _ _] [] p5) _] => decide (s = "super") && decide (i = "__init__") && decide (u = "what") && decide (z = nm) && (p2.endLine == p5.line)
  | _ => false
def bodyOf (K : PySem.W.Frag) (f : Addr) : FuncBody := match K.lookup f with
  | some ⟨_, _, .func fd, _⟩ => fd.body
  | _ => .stmts []
def parOf (K : PySem.W.Frag) (f : Addr) : Arguments := match K.lookup f with
  | some ⟨_, _, .func fd, _⟩ => fd.params
  | _ => ⟨[], [], none, [], [], none, []⟩
def dflOf (K : PySem.W.Frag) (f : Addr) : Value := match K.lookup f with
  | some ⟨_, _, .func fd, _⟩ => fd.defaults
  | _ => .none
def scOf (K : PySem.W.Frag) (f : Addr) : Scope := match K.lookup f with
  | some ⟨_, _, .func fd, _⟩ => fd.scope
  | _ => ⟨.function, [], false, false, []⟩
/-- parameters self, what, word, the last one with a default -/
def refPar (a : Arguments) : Bool := match a with
  | ⟨[], [a0, a1, a2], none, [], [], none, [_]⟩ => decide (a0.arg = "self") && decide (a1.arg = "what") && decide (a2.arg = "word")
  | _ => false
def tup1 (K : PySem.W.Frag) (v : Value) : Bool := match v with
  | .ref T => (match K.lookup T with
    | some ⟨.type c, _, .seq its _, _⟩ => decide (c = "tuple") && decide (its.size = 1)
    | _ => false)
  | _ => false
def refB (prog : Program) (K : PySem.W.Frag) (D : Addr) : Bool :=
  supB prog K (He.ma K D "__init__") D && refBody (bodyOf K (He.ma K D "__init__")) && refPar (parOf K (He.ma K D "__init__")) && tup1 K (dflOf K (He.ma K D "__init__")) && decide ((scOf K (He.ma K D "__init__")).names.lookup ("word" : Str) = some .local) &&
    decide (PySem.W.nsIn K cStatics "thirdparty.any" = some none) && PySem.W.fnIn K (He.ma K D "__init__") && decide (PySem.W.typeIn K (.ref (He.ma K D "__init__")) = some (.type "function"))
/-- the class at C of the name nm, over Refused's at D -/
def oexB (K : PySem.W.Frag) (C : Addr) : Bool := (match K.lookup C with
  | some ⟨.type t, _, .cls cd, sl⟩ => decide (t = "type") && (match cd.mro, sl.toList with
    | .ref E :: bm, [_, _, _, _, some (.builtin n), _] => decide (E = C) && decide (n = "ValueError.__new__") && !cd.hasDel && cd.hasDict && PySem.HandSPX.refsVE bm
    | _, _ => false)
  | _ => false) && decide (PySem.W.findIn K (.ref C) "__setattr__" = some (some (.builtin "object.__setattr__"))) && decide (PySem.W.subIn K (.ref C) (.type "BaseException") = some true) && decide (PySem.W.typeIn K (.ref C) = some (.type "type")) && PySem.W.keepIn K (.ref C)
def xcKB (prog : Program) (K : PySem.W.Frag) (D C : Addr) (nm : Str) : Bool :=
  supB prog K (He.ma K C "__init__") C && xcBody nm (bodyOf K (He.ma K C "__init__")) && plainA (parOf K (He.ma K C "__init__")) ["self", "what"] && decide (dflOf K (He.ma K C "__init__") = .none) && oexB K C &&
    decide (PySem.W.mroIn K C (.ref D) = some true) && decide (PySem.W.mroIn K C (.ref C) = some true) && decide (PySem.W.ks_superIn K C D "__init__" = some (some (.builtin "ValueError.__init__"))) && decide (PySem.W.ks_superIn K C C "__init__" = some (some (.ref (He.ma K D "__init__")))) &&
    decide (PySem.W.subIn K (.ref C) (.type "ValueError") = some true) && decide (PySem.W.findIn K (.ref C) "what" = some none) && decide (PySem.W.findIn K (.ref C) "word" = some none) && decide (PySem.W.findIn K (.ref C) "__init__" = some (some (.ref (He.ma K C "__init__")))) && decide (PySem.W.typeIn K (.ref (He.ma K C "__init__")) = some (.type "function"))
/-- one def of the text: slots, parameters, whether it makes lambdas, its statement -/
structure DE where
  N : List Str
  ps : List Str
  lam : Bool
  st : Stmt
abbrev Pth := Str × Option Str
def qualOf (p : Pth) : Str := match p.2 with
  | none => p.1
  | some m => p.1 ++ "." ++ m
def deD (p : Pth) (e : DE) : He.DefD := { at_ := p, name := p.2.getD p.1, qual := qualOf p, params := defArgs e.st, body := defBody e.st, scope := defScope e.st }
/-- the text as the small language has it: the defs, the def that lists the classes -/
structure TX where
  G : GP
  des : List DE
  hcl : DE
/-- names of the trial's text -/
def hN0 : Str := "deed"
def hN1 : Str := "refused_one"
def hNl : Str := "line"
def hNf : Str := "_law_classes"
def hNr : Str := "Refused"
/-- the list that the other def returns -/
def clEls (b : List Stmt) : Option (List Expr) := match b with
  | [.Return (some (.List es _)) _] => some es
  | _ => none
/-- its pairs: the name written, the class asked for -/
def clZ (sc : Scope) (y : Str) : List Expr → Option (List (Str × Str))
  | [] => some []
  | .Tuple [.Constant (.str z) _ _, .Call (.Name i _) [.Name u _, .Name Z _] [] _] _ _ :: es => if (decide (i = "isinstance") && decide (u = y) && glB sc Z && nmB Z && glB sc "isinstance") = true then (clZ sc y es).map ((z, Z) :: ·) else none
  | _ => none
def kitB (K : PySem.W.Frag) (D : Addr) : List (Str × Str) → List (Str × Bool) → Bool
  | [], [] => true
  | p :: zs, q :: qs => decide (p.1 = q.1) && decide (PySem.W.kitOne K (.ref D) (.ref (He.ga K p.2)) = some q.2) && kitB K D zs qs
  | _, _ => false
/-- an exception class as isinstance asks it -/
def excCB (K : PySem.W.Frag) (D : Addr) : Bool :=
  decide (PySem.W.findIn K (.ref D) "__getattribute__" = some (some (.builtin "BaseException.__getattribute__"))) && decide (PySem.W.findIn K (.ref D) "__getattr__" = some none) && decide (PySem.W.subIn K (.ref D) (.type "BaseException") = some true) && PySem.W.hasDictIn K D &&
    decide (PySem.W.findIn K (.ref D) "__class__" = some (some (.builtin "object.__class__"))) && decide (PySem.W.specialIn K (.builtin "object.__class__") "__get__" = some (some (.builtin "getset_descriptor.__get__"))) && decide (PySem.W.takesIn K (.builtin "object.__class__") = some true) && decide (PySem.W.mroIn K D (.type "object") = some true)
def factsOf (G : GP) : List He.Fa := G.cfree.map .free ++ (G.cints.map fun p => He.Fa.int p.1 p.2) ++ (G.cstrs.map fun p => He.Fa.str p.1 p.2) ++ (G.funs.filterMap fun F => if F.path.2.isNone then some (.glo F.path.1) else none) ++
  G.cls.flatMap (fun C => [.glo C.name, .cls C.name, .mkr C.name] ++ (C.meths.map fun m => He.Fa.meth C.name m.1) ++ C.flds.map fun f => He.Fa.noat C.name f)
def lamP (T : TX) : List Pth := (T.G.funs.zip T.des).filterMap fun q => if q.2.lam then some q.1.path else none
def clsZ (T : TX) : Option (List (Str × Str)) := match T.hcl.ps, clEls (defBody T.hcl.st) with
  | [y], some es => clZ (defScope T.hcl.st) y es
  | _, _ => none
/-- what is asked of the heap's part K -/
def okK (prog : Program) (T : TX) (K : PySem.W.Frag) : Bool :=
  (factsOf T.G).all (fun f => f.ok K) && (He.Fa.glo hNr).ok K && (He.Fa.free "super").ok K && (He.Fa.glo hNf).ok K && (He.Fa.free "isinstance").ok K && refB prog K (He.ga K hNr) &&
    (T.G.xcs.all fun z => nmB z && (He.Fa.glo z).ok K && xcKB prog K (He.ga K hNr) (He.ga K z) z && xfB K (He.ga K z) && excCB K (He.ga K z) && decide (PySem.W.exmOne K (.ref (He.ga K z)) (.ref (He.ga K hNr)) = some true)) &&
    ((lamP T).all fun p => (lamP T).all fun q => decide (p = q) || !decide ((He.cT K p).2 = (He.cT K q).2)) &&
    (match clsZ T with
      | some zs => (zs.all fun p => (He.Fa.glo p.2).ok K) && T.G.funs.all fun F => match F.fb with
        | .code _ => true
        | .heard names => names.all fun r => match T.G.xcs[r.1]? with
          | some z => kitB K (He.ga K z) zs r.2 && decide (r.2.length ≤ 1000)
          | none => false
      | none => false)
def noLst : Obj → Bool
  | ⟨.type c, _, _, _⟩ => !decide (c = "list")
  | _ => true
/-- what a function object names -/
def fnRefs (deep : Bool) (o : Obj) : List Addr := match o.data with
  | .func fd => He.refV fd.code ++ (if deep = true then He.refV fd.defaults ++ fd.closure.map (·.2) else [])
  | _ => []
def rfs (g : Addr → Option Obj) (deep : Bool) (a : Addr) : List Addr := match g a with
  | some o => fnRefs deep o
  | none => []
/-- the values of a dict of names -/
def valsAt (g : Addr → Option Obj) (a : Addr) : List (Value × Value) := match g a with
  | some o => (match o.data with
    | .dict es _ => es.toList.map fun e => (e.key, e.val)
    | _ => [])
  | none => []
def clsNs (g : Addr → Option Obj) (a : Addr) : List Addr := match g a with
  | some o => (match o.data with
    | .cls cd => [cd.ns]
    | _ => [])
  | none => []
def isKey (D : List Str) : Value → Bool
  | .str x _ => D.contains x
  | _ => false
/-- the module's names, their code objects, the classes of D with their methods -/
def asX (g : Addr → Option Obj) (D : List Str) : List Addr :=
  let vs := valsAt g mainGlobals
  let l1 := vs.flatMap fun p => He.refV p.2
  let ds := vs.flatMap fun p => if isKey D p.1 = true then He.refV p.2 else []
  let ns := ds.flatMap (clsNs g)
  let ms := ns.flatMap fun n => (valsAt g n).flatMap fun p => He.refV p.2
  cStatics :: mainGlobals :: l1 ++ ns ++ ms ++ ms.flatMap (rfs g true) ++ l1.flatMap (rfs g false)
/-- the part of the heap that is known: no lists, no empty tables -/
def frK (g : Addr → Option Obj) (n : List Str) : PySem.W.Frag := (He.frT g (asX g n)).filter fun q => noLst q.2
/-- the defs with their texts -/
def fnL (T : TX) : List He.DefD := ((T.G.funs.zip T.des).map fun q => deD q.1.path q.2) ++ [deD (hNf, none) T.hcl]
def tabB (g : Addr → Option Obj) (K : PySem.W.Frag) (p : Pth) : Bool := PySem.W.codeHdIn K (He.cT K p).1 (He.cT K p).2 && (match g (He.cT K p).2 with
  | some o => He.emptyTab o
  | none => false)
abbrev AlK : Type := Bool × List He.FnW
def obK (prog : Program) (T : TX) (n : List Str) (g : Addr → Option Obj) (K : PySem.W.Frag) : AlK := (okK prog T K && ((fnL T).all fun d => d.ok K) && ((lamP T).all fun p => tabB g K p), (fnL T).map fun d => He.fnW K d.at_)
/-- the classes that are looked at -/
def deepN (T : TX) : List Str := hNr :: T.G.xcs ++ T.G.cls.map (·.name)
def vaK (T : TX) : AlK := (true, (fnL T).map He.DefD.val)
def obG (prog : Program) (T : TX) (n : List Str) (s : PySem.W.SharedT) : AlK := obK prog T n (HandSHeadRun.getT s) (frK (HandSHeadRun.getT s) n)
end MI

set_option Elab.async false
set_option linter.all false
set_option maxRecDepth 100000
set_option maxHeartbeats 4000000
/-! the program in the small language (printed by gen.py) -/
namespace K82
open PySem MI
/-- 0: whole, slots thing low high -/
def c0 : MI.Code := ⟨3, 3, [], (.seq (.ite (.or (.not (.isi (.var 0) .int)) (.isi (.var 0) .bool)) (.seq (.ret (.c (.bl false))) .skip) .skip) (.seq (.ret (.and (.cmp .le (.var 1) (.var 0)) (.or (.cmp .is (.var 2) (.c .non)) (.cmp .le (.var 0) (.var 2))))) .skip))⟩
/-- 1: is_keys, slots n thing scale steps step -/
def c1 : MI.Code := ⟨2, 5, [], (.seq (.ite (.or (.not (.isi (.var 1) .tuple)) (.cmp .ne (.bi .len (.cons (.var 1) .nil)) (.c (.int 2)))) (.seq (.ret (.c (.bl false))) .skip) .skip) (.seq (.asg (.tup (.cons (.nm 2) (.cons (.nm 3) .nil))) (.var 1)) (.seq (.ite (.or (.not (.call "whole" 0 (.cons (.var 2) (.cons (.c (.int 1)) (.cons (.gv "MOST_SCALE_keys" (.int 1000000)) .nil))))) (.or (.not (.isi (.var 3) .tuple)) (.cmp .ne (.bi .len (.cons (.var 3) .nil)) (.var 0)))) (.seq (.ret (.c (.bl false))) .skip) .skip) (.seq (.ret (.bi .all (.cons (.lc .seq (.var 3) .yes (.nm 4) .yes (.call "whole" 0 (.cons (.var 4) (.cons (.c (.int 0)) (.cons (.gv "MOST_STEP_keys" (.int 1000000000000)) .nil))))) .nil))) .skip))))⟩
/-- 2: lines_of, slots text -/
def c2 : MI.Code := ⟨1, 1, [], (.seq (.ite (.not (.isi (.var 0) .str)) (.seq (.raise "BadText" 0 (.cons (.neg (.c (.int 1))) .nil)) .skip) .skip) (.seq (.ite (.cmp .gt (.bi .len (.cons (.var 0) .nil)) (.gv "MOST_SIGNS" (.int 400000))) (.seq (.raise "TooMany" 1 (.cons (.bi .len (.cons (.var 0) .nil)) .nil)) .skip) .skip) (.seq (.ret (.meth (.var 0) "split" (.cons (.c (.str "\n")) .nil))) .skip)))⟩
/-- 3: words_of, slots line -/
def c3 : MI.Code := ⟨1, 1, [], (.seq (.ret (.meth (.var 0) "split" (.cons (.c (.str " ")) .nil))) .skip)⟩
/-- 4: number_of, slots word sign -/
def c4 : MI.Code := ⟨1, 2, [], (.seq (.ite (.or (.not (.chain .le .le (.c (.int 1)) (.bi .len (.cons (.var 0) .nil)) (.gv "MOST_FIGURES" (.int 20)))) (.and (.cmp .eq (.idx (.var 0) (.c (.int 0))) (.c (.str "0"))) (.cmp .ne (.var 0) (.c (.str "0"))))) (.seq (.ret (.c .non)) .skip) .skip) (.seq (.ite (.bi .any (.cons (.lc .seq (.var 0) .yes (.nm 1) .yes (.cmp .notin (.var 1) (.gv "FIGURES" (.str "0123456789")))) .nil)) (.seq (.ret (.c .non)) .skip) .skip) (.seq (.ret (.bi .int (.cons (.var 0) .nil))) .skip)))⟩
/-- 5: asked_wishes, slots n -/
def c5 : MI.Code := ⟨1, 1, [], (.seq (.ite (.not (.call "whole" 0 (.cons (.var 0) (.cons (.c (.int 0)) (.cons (.gv "MOST_WISHES" (.int 40)) .nil))))) (.seq (.raise "BadMany" 2 (.cons (.var 0) .nil)) .skip) .skip) .skip)⟩
/-- 6: keys_text, slots n keys step -/
def c6 : MI.Code := ⟨2, 3, [], (.seq (.ex (.call "asked_wishes" 5 (.cons (.var 0) .nil))) (.seq (.ite (.not (.call "is_keys" 1 (.cons (.var 0) (.cons (.var 1) .nil)))) (.seq (.raise "BadKeys" 3 (.cons (.c (.int 0)) .nil)) .skip) .skip) (.seq (.ret (.meth (.c (.str " ")) "join" (.cons (.bin .add (.lst (.cons (.c (.str "keys")) (.cons (.bi .str (.cons (.idx (.var 1) (.c (.int 0))) .nil)) .nil))) (.lc .seq (.idx (.var 1) (.c (.int 1))) .yes (.nm 2) .yes (.bi .str (.cons (.var 2) .nil)))) .nil))) .skip)))⟩
/-- 7: read_keys, slots n text lines line scale steps _ -/
def c7 : MI.Code := ⟨2, 7, [3], (.seq (.ex (.call "asked_wishes" 5 (.cons (.var 0) .nil))) (.seq (.asg (.nm 2) (.make "Lines" 1 (.cons (.var 1) .nil))) (.seq (.asg (.nm 3) (.meth (.var 2) "next" .nil)) (.seq (.ex (.meth (.var 3) "one_of" (.cons (.tup (.cons (.c (.str "keys")) .nil)) .nil))) (.seq (.asg (.nm 4) (.meth (.var 3) "number" (.cons (.c (.int 1)) (.cons (.gv "MOST_SCALE_latetexts" (.int 1000000)) .nil)))) (.seq (.asg (.nm 5) (.lc .rng1 (.var 0) .yes (.nm 6) .yes (.meth (.var 3) "number" (.cons (.c (.int 0)) (.cons (.gv "MOST_STEP_latetexts" (.int 1000000000000)) .nil))))) (.seq (.ex (.meth (.var 3) "end" .nil)) (.seq (.ex (.meth (.var 2) "end" .nil)) (.seq (.ret (.tup (.cons (.var 4) (.cons (.bi .tuple (.cons (.var 5) .nil)) .nil)))) .skip)))))))))⟩
/-- 8: _law_is_whole, slots thing -/
def c8 : MI.Code := ⟨1, 1, [], (.seq (.ret (.and (.isi (.var 0) .int) (.not (.isi (.var 0) .bool)))) .skip)⟩
/-- 9: _law_same, slots told owed at -/
def c9 : MI.Code := ⟨2, 3, [], (.seq (.ite (.cmp .is (.var 1) (.c .non)) (.seq (.ret (.cmp .is (.var 0) (.c .non))) .skip) .skip) (.seq (.ite (.isi (.var 1) .bool) (.seq (.ret (.ife (.var 1) (.cmp .is (.var 0) (.c (.bl true))) (.cmp .is (.var 0) (.c (.bl false))))) .skip) .skip) (.seq (.ite (.isi (.var 1) .int) (.seq (.ret (.and (.call "_law_is_whole" 8 (.cons (.var 0) .nil)) (.cmp .eq (.var 0) (.var 1)))) .skip) .skip) (.seq (.ite (.isi (.var 1) .str) (.seq (.ret (.and (.isi (.var 0) .str) (.cmp .eq (.var 0) (.var 1)))) .skip) .skip) (.seq (.ite (.or (.and (.isi (.var 1) .tuple) (.not (.isi (.var 0) .tuple))) (.and (.isi (.var 1) .list) (.not (.isi (.var 0) .list)))) (.seq (.ret (.c (.bl false))) .skip) .skip) (.seq (.ite (.cmp .ne (.bi .len (.cons (.var 0) .nil)) (.bi .len (.cons (.var 1) .nil))) (.seq (.ret (.c (.bl false))) .skip) .skip) (.seq (.for .rng1 (.bi .len (.cons (.var 1) .nil)) .yes (.nm 2) (.seq (.ite (.not (.call "_law_same" 9 (.cons (.idx (.var 0) (.var 2)) (.cons (.idx (.var 1) (.var 2)) .nil)))) (.seq (.ret (.c (.bl false))) .skip) .skip) .skip)) (.seq (.ret (.c (.bl true))) .skip))))))))⟩
-- 10 _law_heard
/-- 11: _law_tells, slots deed owed -/
def c11 : MI.Code := ⟨2, 2, [], (.seq (.ret (.call "_law_same" 9 (.cons (.call "_law_heard" 10 (.cons (.var 0) .nil)) (.cons (.tup (.cons (.c (.str "told")) (.cons (.var 1) .nil))) .nil)))) .skip)⟩
/-- 12: _law_refuses, slots deed name what -/
def c12 : MI.Code := ⟨3, 3, [], (.seq (.ret (.call "_law_same" 9 (.cons (.call "_law_heard" 10 (.cons (.var 0) .nil)) (.cons (.tup (.cons (.var 1) (.cons (.var 2) .nil))) .nil)))) .skip)⟩
/-- 13: _law_pool, slots script k cell big mixed -/
def c13 : MI.Code := ⟨2, 5, [], (.seq (.asg (.nm 2) (.c (.int 0))) (.seq (.ite (.cmp .lt (.var 1) (.bi .len (.cons (.var 0) .nil))) (.seq (.asg (.nm 2) (.idx (.var 0) (.var 1))) .skip) (.seq (.ite (.cmp .ne (.var 0) (.lst .nil)) (.seq (.asg (.nm 2) (.idx (.var 0) (.c (.int 0)))) .skip) .skip) .skip)) (.seq (.asg (.nm 3) (.bi .max2 (.cons (.bi .int (.cons (.var 2) .nil)) (.cons (.bi .int (.cons (.bin .sub (.neg (.c (.int 1))) (.var 2)) .nil)) .nil)))) (.seq (.asg (.nm 4) (.bin .mod (.bi .int (.cons (.bin .mul (.bin .add (.bin .add (.bin .add (.bin .mod (.bi .int (.cons (.var 3) .nil)) (.c (.int 2147483629))) (.bin .mul (.bin .mul (.c (.int 7919)) (.var 1)) (.var 1))) (.bin .mul (.c (.int 31)) (.var 1))) (.c (.int 17))) (.c (.int 48271))) .nil)) (.c (.int 2147483647)))) (.seq (.ret (.lst (.cons (.bin .mul (.var 3) (.bi .int (.cons (.and (.cmp .ge (.var 3) (.bin .pow (.c (.int 10)) (.c (.int 18)))) (.cmp .lt (.var 1) (.bi .len (.cons (.var 0) .nil)))) .nil))) (.cons (.var 4) .nil)))) .skip)))))⟩
/-- 14: _law_take, slots jar top number -/
def c14 : MI.Code := ⟨2, 3, [], (.seq (.ite (.cmp .gt (.idx (.var 0) (.c (.int 0))) (.c (.int 0))) (.seq (.asg (.nm 2) (.bin .mod (.bi .int (.cons (.idx (.var 0) (.c (.int 0))) .nil)) (.var 1))) (.seq (.seti (.var 0) (.c (.int 0)) (.bin .fdiv (.idx (.var 0) (.c (.int 0))) (.var 1))) (.seq (.ret (.var 2)) .skip))) .skip) (.seq (.seti (.var 0) (.c (.int 1)) (.bin .mod (.bi .int (.cons (.bin .add (.bin .mul (.idx (.var 0) (.c (.int 1))) (.c (.int 39373))) (.c (.int 7))) .nil)) (.c (.int 2147483647)))) (.seq (.ret (.bin .mod (.bi .int (.cons (.bin .fdiv (.bin .mod (.bi .int (.cons (.bin .mul (.idx (.var 0) (.c (.int 1))) (.idx (.var 0) (.c (.int 1)))) .nil)) (.c (.int 2147483629))) (.c (.int 32))) .nil)) (.var 1))) .skip)))⟩
/-- 15: _law_one, slots jar things -/
def c15 : MI.Code := ⟨2, 2, [], (.seq (.ret (.idx (.var 1) (.call "_law_take" 14 (.cons (.var 0) (.cons (.bi .len (.cons (.var 1) .nil)) .nil))))) .skip)⟩
/-- 16: _law_mixed, slots jar things left_over found place -/
def c16 : MI.Code := ⟨2, 5, [], (.seq (.asg (.tup (.cons (.nm 2) (.cons (.nm 3) .nil))) (.tup (.cons (.bi .list (.cons (.var 1) .nil)) (.cons (.lst .nil) .nil)))) (.seq (.for .rng1 (.bi .len (.cons (.var 1) .nil)) .yes (.nm 4) (.seq (.ex (.meth (.var 3) "append" (.cons (.meth (.var 2) "pop" (.cons (.call "_law_take" 14 (.cons (.var 0) (.cons (.bi .len (.cons (.var 2) .nil)) .nil))) .nil)) .nil))) .skip)) (.seq (.ret (.var 3)) .skip)))⟩
/-- 17: _law_is_number, slots thing low high -/
def c17 : MI.Code := ⟨3, 3, [], (.seq (.ret (.and (.call "_law_is_whole" 8 (.cons (.var 0) .nil)) (.and (.cmp .le (.var 1) (.var 0)) (.cmp .le (.var 0) (.var 2))))) .skip)⟩
/-- 18: _law_text_wrong, slots thing most -/
def c18 : MI.Code := ⟨2, 2, [], (.seq (.ite (.not (.isi (.var 0) .str)) (.seq (.ret (.tup (.cons (.c (.str "BadText")) (.cons (.neg (.c (.int 1))) .nil)))) .skip) .skip) (.seq (.ret (.ife (.cmp .gt (.bi .len (.cons (.var 0) .nil)) (.var 1)) (.tup (.cons (.c (.str "TooMany")) (.cons (.bi .len (.cons (.var 0) .nil)) .nil))) (.c .non))) .skip))⟩
/-- 19: _law_word_number, slots word sign -/
def c19 : MI.Code := ⟨1, 2, [], (.seq (.ite (.or (.cmp .eq (.var 0) (.c (.str ""))) (.or (.cmp .gt (.bi .len (.cons (.var 0) .nil)) (.c (.int 20))) (.cmp .ne (.lc .seq (.var 0) .yes (.nm 1) (.cmp .notin (.var 1) (.c (.str "0123456789"))) (.var 1)) (.lst .nil)))) (.seq (.ret (.c .non)) .skip) .skip) (.seq (.ret (.ife (.or (.cmp .eq (.var 0) (.c (.str "0"))) (.cmp .ne (.idx (.var 0) (.c (.int 0))) (.c (.str "0")))) (.bi .int (.cons (.var 0) .nil)) (.c .non))) .skip))⟩
/-- 20: _law_word_in, slots word low high found -/
def c20 : MI.Code := ⟨3, 4, [], (.seq (.asg (.nm 3) (.call "_law_word_number" 19 (.cons (.var 0) .nil))) (.seq (.ret (.ife (.and (.cmp .isnot (.var 3) (.c .non)) (.chain .le .le (.var 1) (.var 3) (.var 2))) (.var 3) (.c .non))) .skip))⟩
/-- 21: _law_word_at, slots said at -/
def c21 : MI.Code := ⟨2, 2, [], (.seq (.ret (.ife (.cmp .lt (.var 1) (.bi .len (.cons (.var 0) .nil))) (.idx (.var 0) (.var 1)) (.c (.str "")))) .skip)⟩
/-- 22: _law_wrong_word, slots said lets at -/
def c22 : MI.Code := ⟨2, 3, [], (.seq (.for .rng1 (.bi .len (.cons (.var 1) .nil)) .yes (.nm 2) (.seq (.ite (.or (.cmp .ge (.var 2) (.bi .len (.cons (.var 0) .nil))) (.not (.idx (.var 1) (.var 2)))) (.seq (.ret (.var 2)) .skip) .skip) .skip)) (.seq (.ret (.ife (.cmp .gt (.bi .len (.cons (.var 0) .nil)) (.bi .len (.cons (.var 1) .nil))) (.bi .len (.cons (.var 1) .nil)) (.c .non))) .skip))⟩
/-- 23: _law_read_words, slots text first bounds_of wrong lines_now said found i x -/
def c23 : MI.Code := ⟨3, 9, [2, 5], (.seq (.asg (.nm 3) (.call "_law_text_wrong" 18 (.cons (.var 0) (.cons (.c (.int 400000)) .nil)))) (.seq (.ite (.cmp .isnot (.var 3) (.c .non)) (.seq (.ret (.var 3)) .skip) .skip) (.seq (.asg (.nm 4) (.meth (.var 0) "split" (.cons (.c (.str "\n")) .nil))) (.seq (.asg (.nm 5) (.meth (.idx (.var 4) (.c (.int 0))) "split" (.cons (.c (.str " ")) .nil))) (.seq (.asg (.nm 6) (.lc .rng1 (.bi .len (.cons (.var 2) .nil)) .yes (.nm 7) .yes (.call "_law_word_in" 20 (.cons (.call "_law_word_at" 21 (.cons (.var 5) (.cons (.bin .add (.c (.int 1)) (.var 7)) .nil))) (.cons (.idx (.idx (.var 2) (.var 7)) (.c (.int 0))) (.cons (.idx (.idx (.var 2) (.var 7)) (.c (.int 1))) .nil)))))) (.seq (.asg (.nm 3) (.call "_law_wrong_word" 22 (.cons (.var 5) (.cons (.bin .add (.lst (.cons (.cmp .eq (.idx (.var 5) (.c (.int 0))) (.var 1)) .nil)) (.lc .seq (.var 6) .yes (.nm 8) .yes (.cmp .isnot (.var 8) (.c .non)))) .nil)))) (.seq (.ite (.cmp .isnot (.var 3) (.c .non)) (.seq (.ret (.tup (.cons (.c (.str "WrongLine")) (.cons (.tup (.cons (.c (.int 0)) (.cons (.var 3) .nil))) .nil)))) .skip) .skip) (.seq (.ret (.ife (.cmp .eq (.bi .len (.cons (.var 4) .nil)) (.c (.int 1))) (.tup (.cons (.c (.str "told")) (.cons (.bi .tuple (.cons (.var 6) .nil)) .nil))) (.tup (.cons (.c (.str "WrongLine")) (.cons (.tup (.cons (.c (.int 1)) (.cons (.c (.int 0)) .nil))) .nil))))) .skip))))))))⟩
/-- 24: _law_keys_text, slots key_pair step -/
def c24 : MI.Code := ⟨1, 2, [], (.seq (.ret (.meth (.c (.str " ")) "join" (.cons (.bin .add (.lst (.cons (.c (.str "keys")) (.cons (.bi .str (.cons (.idx (.var 0) (.c (.int 0))) .nil)) .nil))) (.lc .seq (.idx (.var 0) (.c (.int 1))) .yes (.nm 1) .yes (.bi .str (.cons (.var 1) .nil)))) .nil))) .skip)⟩
/-- 25: _law_is_keys_pair, slots n thing step -/
def c25 : MI.Code := ⟨2, 3, [], (.seq (.ite (.or (.not (.isi (.var 1) .tuple)) (.or (.cmp .ne (.bi .len (.cons (.var 1) .nil)) (.c (.int 2))) (.not (.call "_law_is_number" 17 (.cons (.idx (.var 1) (.c (.int 0))) (.cons (.c (.int 1)) (.cons (.bin .pow (.c (.int 10)) (.c (.int 6))) .nil))))))) (.seq (.ret (.c (.bl false))) .skip) .skip) (.seq (.ite (.or (.not (.isi (.idx (.var 1) (.c (.int 1))) .tuple)) (.cmp .ne (.bi .len (.cons (.idx (.var 1) (.c (.int 1))) .nil)) (.var 0))) (.seq (.ret (.c (.bl false))) .skip) .skip) (.seq (.ret (.cmp .eq (.lc .seq (.idx (.var 1) (.c (.int 1))) .yes (.nm 2) (.not (.call "_law_is_number" 17 (.cons (.var 2) (.cons (.c (.int 0)) (.cons (.bin .pow (.c (.int 10)) (.c (.int 12))) .nil))))) (.var 2)) (.lst .nil))) .skip)))⟩
/-- 26: _law_read_keys, slots n text owed -/
def c26 : MI.Code := ⟨2, 3, [], (.seq (.asg (.nm 2) (.call "_law_read_words" 23 (.cons (.var 1) (.cons (.c (.str "keys")) (.cons (.bin .add (.lst (.cons (.tup (.cons (.c (.int 1)) (.cons (.bin .pow (.c (.int 10)) (.c (.int 6))) .nil))) .nil)) (.bin .mul (.lst (.cons (.tup (.cons (.c (.int 0)) (.cons (.bin .pow (.c (.int 10)) (.c (.int 12))) .nil))) .nil)) (.var 0))) .nil))))) (.seq (.ret (.ife (.cmp .eq (.idx (.var 2) (.c (.int 0))) (.c (.str "told"))) (.tup (.cons (.c (.str "told")) (.cons (.tup (.cons (.idx (.idx (.var 2) (.c (.int 1))) (.c (.int 0))) (.cons (.sl (.idx (.var 2) (.c (.int 1))) (.part (.c (.int 1))) (.c .non)) .nil))) .nil))) (.var 2))) .skip))⟩
/-- 27: _law_bent_text, slots jar text form at lines_now k sign -/
def c27 : MI.Code := ⟨2, 7, [], (.seq (.asg (.tup (.cons (.nm 2) (.cons (.nm 3) .nil))) (.tup (.cons (.call "_law_take" 14 (.cons (.var 0) (.cons (.c (.int 6)) .nil))) (.cons (.call "_law_take" 14 (.cons (.var 0) (.cons (.bin .add (.bi .len (.cons (.var 1) .nil)) (.c (.int 1))) .nil))) .nil)))) (.seq (.asg (.nm 4) (.meth (.var 1) "split" (.cons (.c (.str "\n")) .nil))) (.seq (.asg (.nm 5) (.call "_law_take" 14 (.cons (.var 0) (.cons (.bi .len (.cons (.var 4) .nil)) .nil)))) (.seq (.ite (.cmp .eq (.var 2) (.c (.int 0))) (.seq (.ret (.bin .add (.sl (.var 1) (.c .non) (.part (.var 3))) (.sl (.var 1) (.part (.bin .add (.var 3) (.c (.int 1)))) (.c .non)))) .skip) .skip) (.seq (.ite (.cmp .lt (.var 2) (.c (.int 4))) (.seq (.asg (.nm 6) (.call "_law_one" 15 (.cons (.var 0) (.cons (.lst (.cons (.c (.str " ")) (.cons (.c (.str "\n")) (.cons (.c (.str "-")) (.cons (.c (.str "0")) (.cons (.c (.str "1")) (.cons (.c (.str "7")) (.cons (.c (.str ",")) (.cons (.c (.str "a")) (.cons (.c (.str "none")) (.cons (.c (.str "x")) (.cons (.c (.str "never")) (.cons (.c (.str "5")) (.cons (.c (.str "2")) (.cons (.c (.str "limit")) .nil))))))))))))))) .nil)))) (.seq (.ret (.bin .add (.bin .add (.sl (.var 1) (.c .non) (.part (.var 3))) (.var 6)) (.sl (.var 1) (.part (.bin .add (.var 3) (.bi .int (.cons (.cmp .eq (.var 2) (.c (.int 3))) .nil)))) (.c .non)))) .skip)) .skip) (.seq (.ret (.ife (.cmp .eq (.var 2) (.c (.int 4))) (.meth (.c (.str "\n")) "join" (.cons (.bin .add (.sl (.var 4) (.c .non) (.part (.bin .add (.var 5) (.c (.int 1))))) (.sl (.var 4) (.part (.var 5)) (.c .non))) .nil)) (.meth (.c (.str "\n")) "join" (.cons (.bin .add (.sl (.var 4) (.c .non) (.part (.var 5))) (.sl (.var 4) (.part (.bin .add (.var 5) (.c (.int 1)))) (.c .non))) .nil)))) .skip))))))⟩
/-- 28: _law_foreign, slots  -/
def c28 : MI.Code := ⟨0, 0, [], (.seq (.ret (.lst (.cons (.c (.str "é")) (.cons (.c (.str "а")) (.cons (.c (.str "١")) (.cons (.c (.str "²")) (.cons (.c (.str "½")) (.cons (.c (.str "１")) (.cons (.c (.str "\u2003")) (.cons (.c (.str "\u00a0")) (.cons (.c (.str "\u2028")) (.cons (.c (.str "\u0085")) (.cons (.c (.str "\u200b")) (.cons (.c (.str "−")) (.cons (.c (.str "，")) (.cons (.c (.str (PySem.Str.mk #[120793]))) (.cons (.c (.str "ſ")) (.cons (.c (.str "\u0000")) (.cons (.c (.str "\u000b")) (.cons (.c (.str "\u000c")) (.cons (.c (.str "\u001c")) (.cons (.c (.str "\u000d")) (.cons (.c (.str "\t")) (.cons (.c (.str "%")) (.cons (.c (.str "+")) (.cons (.c (.str "_")) (.cons (.c (.str ".")) (.cons (.c (.str ",")) (.cons (.c (.str "\"")) (.cons (.c (.str "'")) (.cons (.c (.str "\\")) (.cons (.c (.str "{")) (.cons (.c (.str "K")) .nil))))))))))))))))))))))))))))))))) .skip)⟩
/-- 29: _law_some_number, slots jar most -/
def c29 : MI.Code := ⟨2, 2, [], (.seq (.ret (.call "_law_one" 15 (.cons (.var 0) (.cons (.lst (.cons (.c (.int 0)) (.cons (.c (.int 1)) (.cons (.c (.int 9)) (.cons (.c (.int 10)) (.cons (.var 1) (.cons (.bin .sub (.var 1) (.c (.int 1))) (.cons (.call "_law_take" 14 (.cons (.var 0) (.cons (.bin .add (.var 1) (.c (.int 1))) .nil))) (.cons (.call "_law_take" 14 (.cons (.var 0) (.cons (.c (.int 100)) .nil))) .nil))))))))) .nil)))) .skip)⟩
/-- 30: _law_some_keys, slots jar n e -/
def c30 : MI.Code := ⟨2, 3, [0], (.seq (.ret (.tup (.cons (.bi .max2 (.cons (.c (.int 1)) (.cons (.call "_law_some_number" 29 (.cons (.var 0) (.cons (.bin .pow (.c (.int 10)) (.c (.int 6))) .nil))) .nil))) (.cons (.bi .tuple (.cons (.lc .rng1 (.var 1) .yes (.nm 2) .yes (.call "_law_some_number" 29 (.cons (.var 0) (.cons (.bin .pow (.c (.int 10)) (.c (.int 12))) .nil)))) .nil)) .nil)))) .skip)⟩
/-- 31: _law_bent_keys, slots jar n marks scale steps at odd found -/
def c31 : MI.Code := ⟨3, 8, [], (.seq (.asg (.tup (.cons (.nm 3) (.cons (.nm 4) .nil))) (.var 2)) (.seq (.asg (.nm 5) (.call "_law_take" 14 (.cons (.var 0) (.cons (.bin .add (.var 1) (.c (.int 1))) .nil)))) (.seq (.asg (.nm 6) (.call "_law_one" 15 (.cons (.var 0) (.cons (.lst (.cons (.neg (.c (.int 1))) (.cons (.bin .add (.bin .pow (.c (.int 10)) (.c (.int 12))) (.c (.int 1))) (.cons (.c (.bl true)) (.cons (.c .non) (.cons (.c (.str "0")) (.cons (.tup (.cons (.c (.int 0)) .nil)) (.cons (.bin .pow (.c (.int 10)) (.c (.int 30))) .nil)))))))) .nil)))) (.seq (.asg (.nm 7) (.lst (.cons (.tup (.cons (.var 3) (.cons (.bin .add (.bin .add (.sl (.var 4) (.c .non) (.part (.var 5))) (.tup (.cons (.var 6) .nil))) (.sl (.var 4) (.part (.bin .add (.var 5) (.c (.int 1)))) (.c .non))) .nil))) (.cons (.tup (.cons (.var 3) (.cons (.bin .add (.bin .add (.sl (.var 4) (.c .non) (.part (.var 5))) (.tup (.cons (.var 6) .nil))) (.sl (.var 4) (.part (.var 5)) (.c .non))) .nil))) (.cons (.tup (.cons (.var 3) (.cons (.bin .add (.var 4) (.tup (.cons (.c (.int 0)) .nil))) .nil))) (.cons (.tup (.cons (.var 3) (.cons (.sl (.var 4) (.part (.c (.int 1))) (.c .non)) .nil))) (.cons (.tup (.cons (.var 3) (.cons (.bi .list (.cons (.var 4) .nil)) .nil))) (.cons (.tup (.cons (.c (.int 0)) (.cons (.var 4) .nil))) (.cons (.tup (.cons (.bin .add (.bin .pow (.c (.int 10)) (.c (.int 6))) (.c (.int 1))) (.cons (.var 4) .nil))) (.cons (.tup (.cons (.c (.bl true)) (.cons (.var 4) .nil))) (.cons (.tup (.cons (.c .non) (.cons (.var 4) .nil))) (.cons (.tup (.cons (.var 6) (.cons (.var 4) .nil))) .nil)))))))))))) (.seq (.ret (.sl (.call "_law_mixed" 16 (.cons (.var 0) (.cons (.bin .add (.var 7) (.lst (.cons (.tup (.cons (.var 3) .nil)) (.cons (.tup (.cons (.var 3) (.cons (.var 4) (.cons (.c (.int 0)) .nil)))) (.cons (.lst (.cons (.var 3) (.cons (.var 4) .nil))) (.cons (.c .non) (.cons (.var 4) (.cons (.tup (.cons (.var 4) (.cons (.var 3) .nil))) (.cons (.tup (.cons (.var 3) (.cons (.c .non) .nil))) (.cons (.c (.int 0)) .nil)))))))))) .nil))) (.c .non) (.part (.c (.int 7))))) .skip)))))⟩
/-- 32: _law_odd_word, slots jar -/
def c32 : MI.Code := ⟨1, 1, [], (.seq (.ret (.call "_law_one" 15 (.cons (.var 0) (.cons (.lst (.cons (.c (.str "")) (.cons (.c (.str "0")) (.cons (.c (.str "00")) (.cons (.c (.str "01")) (.cons (.c (.str "-1")) (.cons (.c (.str "-0")) (.cons (.c (.str "+1")) (.cons (.c (.str "1000000")) (.cons (.c (.str "1000001")) (.cons (.c (.str "1000000000000")) (.cons (.c (.str "1000000000001")) (.cons (.bin .mul (.c (.str "9")) (.c (.int 20))) (.cons (.bin .mul (.c (.str "9")) (.c (.int 21))) (.cons (.c (.str "none")) (.cons (.c (.str "1,2")) (.cons (.c (.str "keys")) (.cons (.c (.str "x")) (.cons (.c (.str "1.0")) (.cons (.c (.str "1e3")) .nil)))))))))))))))))))) .nil)))) .skip)⟩
/-- 33: _law_some_texts, slots jar line said found at end -/
def c33 : MI.Code := ⟨2, 6, [], (.seq (.asg (.tup (.cons (.nm 2) (.cons (.nm 3) .nil))) (.tup (.cons (.meth (.var 1) "split" (.cons (.c (.str " ")) .nil)) (.cons (.lst (.cons (.bin .add (.var 1) (.c (.str "\n"))) (.cons (.bin .add (.bin .add (.var 1) (.c (.str "\n"))) (.var 1)) (.cons (.bin .add (.c (.str "\n")) (.var 1)) (.cons (.c (.str "")) (.consT " " (.consU (.bin .add (.var 1) (.c (.str " "))) (.consU (.bin .add (.c (.str " ")) (.var 1)) (.rep (.var 1) " " "  " (.cons (.meth (.var 1) "upper" .nil) (.cons (.bin .add (.c (.str "key")) (.sl (.var 1) (.part (.c (.int 4))) (.c .non))) (.cons (.bin .add (.var 1) (.c (.str " 0"))) .nil)))))))))))) .nil)))) (.seq (.for .rng1 (.bi .min2 (.cons (.bi .len (.cons (.var 2) .nil)) (.cons (.c (.int 6)) .nil))) .yes (.nm 4) (.seq (.ex (.meth (.var 3) "extend" (.cons (.lst (.cons (.meth (.c (.str " ")) "join" (.cons (.bin .add (.bin .add (.sl (.var 2) (.c .non) (.part (.var 4))) (.lst (.cons (.call "_law_odd_word" 32 (.cons (.var 0) .nil)) .nil))) (.sl (.var 2) (.part (.bin .add (.var 4) (.c (.int 1)))) (.c .non))) .nil)) (.cons (.meth (.c (.str " ")) "join" (.cons (.bin .add (.bin .add (.sl (.var 2) (.c .non) (.part (.var 4))) (.lst (.cons (.call "_law_odd_word" 32 (.cons (.var 0) .nil)) .nil))) (.sl (.var 2) (.part (.var 4)) (.c .non))) .nil)) (.cons (.meth (.c (.str " ")) "join" (.cons (.bin .add (.sl (.var 2) (.c .non) (.part (.var 4))) (.sl (.var 2) (.part (.bin .add (.var 4) (.c (.int 1)))) (.c .non))) .nil)) .nil)))) .nil))) .skip)) (.seq (.asg (.nm 5) (.bin .sub (.bi .len (.cons (.var 2) .nil)) (.c (.int 1)))) (.seq (.ret (.bin .add (.var 3) (.lst (.cons (.meth (.c (.str " ")) "join" (.cons (.bin .add (.sl (.var 2) (.c .non) (.part (.var 5))) (.lst (.cons (.call "_law_odd_word" 32 (.cons (.var 0) .nil)) .nil))) .nil)) (.cons (.call "_law_bent_text" 27 (.cons (.var 0) (.cons (.var 1) .nil))) (.cons (.call "_law_bent_text" 27 (.cons (.var 0) (.cons (.call "_law_bent_text" 27 (.cons (.var 0) (.cons (.var 1) .nil))) .nil))) .nil)))))) .skip))))⟩
/-- 34: _law_read_right, slots n text owed -/
def c34 : MI.Code := ⟨2, 3, [0, 1, 2], (.seq (.asg (.nm 2) (.call "_law_read_keys" 26 (.cons (.var 0) (.cons (.var 1) .nil)))) (.seq (.ite (.not (.call "_law_same" 9 (.cons (.call "_law_heard" 10 (.cons (.lam 0 [1, 0]) .nil)) (.cons (.var 2) .nil)))) (.seq (.ret (.c (.bl false))) .skip) .skip) (.seq (.ret (.or (.cmp .ne (.idx (.var 2) (.c (.int 0))) (.c (.str "told"))) (.call "_law_tells" 11 (.cons (.lam 1 [2, 0]) (.cons (.var 1) .nil))))) .skip)))⟩
/-- 35: _law_keys_right, slots jar n owed some at sign size line marks thing text -/
def c35 : MI.Code := ⟨2, 11, [1, 6, 7, 8, 9], (.seq (.asg (.nm 8) (.call "_law_some_keys" 30 (.cons (.var 0) (.cons (.var 1) .nil)))) (.seq (.asg (.nm 7) (.call "_law_keys_text" 24 (.cons (.var 8) .nil))) (.seq (.ite (.not (.call "_law_tells" 11 (.cons (.lam 2 [1, 8]) (.cons (.var 7) .nil)))) (.seq (.ret (.c (.bl false))) .skip) .skip) (.seq (.ite (.not (.call "_law_tells" 11 (.cons (.lam 3 [1, 7]) (.cons (.var 8) .nil)))) (.seq (.ret (.c (.bl false))) .skip) .skip) (.seq (.for .seq (.call "_law_bent_keys" 31 (.cons (.var 0) (.cons (.var 1) (.cons (.var 8) .nil)))) .yes (.nm 9) (.seq (.asg (.nm 2) (.ife (.call "_law_is_keys_pair" 25 (.cons (.var 1) (.cons (.var 9) .nil))) (.tup (.cons (.c (.str "told")) (.cons (.call "_law_keys_text" 24 (.cons (.var 9) .nil)) .nil))) (.tup (.cons (.c (.str "BadKeys")) (.cons (.c (.int 0)) .nil))))) (.seq (.ite (.not (.call "_law_same" 9 (.cons (.call "_law_heard" 10 (.cons (.lam 4 [9, 1]) .nil)) (.cons (.var 2) .nil)))) (.seq (.ret (.c (.bl false))) .skip) .skip) .skip))) (.seq (.asg (.nm 3) (.call "_law_some_texts" 33 (.cons (.var 0) (.cons (.var 7) .nil)))) (.seq (.asg (.tup (.cons (.nm 4) (.cons (.nm 5) .nil))) (.tup (.cons (.call "_law_take" 14 (.cons (.var 0) (.cons (.bin .add (.bi .len (.cons (.var 7) .nil)) (.c (.int 1))) .nil))) (.cons (.call "_law_one" 15 (.cons (.var 0) (.cons (.call "_law_foreign" 28 .nil) .nil))) .nil)))) (.seq (.ex (.meth (.var 3) "extend" (.cons (.lst (.cons (.bin .add (.bin .add (.sl (.var 7) (.c .non) (.part (.var 4))) (.var 5)) (.sl (.var 7) (.part (.var 4)) (.c .non))) (.cons (.bin .add (.bin .add (.sl (.var 7) (.c .non) (.part (.var 4))) (.var 5)) (.sl (.var 7) (.part (.bin .add (.var 4) (.c (.int 1)))) (.c .non))) .nil))) .nil))) (.seq (.for .seq (.lst (.cons (.var 1) (.cons (.bin .add (.var 1) (.c (.int 1))) (.cons (.bi .max2 (.cons (.c (.int 0)) (.cons (.bin .sub (.var 1) (.c (.int 1))) .nil))) .nil)))) .yes (.nm 6) (.seq (.ite (.cmp .ne (.lc .seq (.var 3) .yes (.nm 10) (.not (.call "_law_read_right" 34 (.cons (.bi .min2 (.cons (.var 6) (.cons (.c (.int 40)) .nil))) (.cons (.var 10) .nil)))) (.var 10)) (.lst .nil)) (.seq (.ret (.c (.bl false))) .skip) .skip) .skip)) (.seq (.ret (.c (.bl true))) .skip))))))))))⟩
/-- 36: _law_refused_right, slots jar n told many text -/
def c36 : MI.Code := ⟨2, 5, [1, 3, 4], (.seq (.asg (.nm 3) (.call "_law_one" 15 (.cons (.var 0) (.cons (.lst (.cons (.neg (.c (.int 1))) (.cons (.c (.int 41)) (.cons (.c .non) (.cons (.c (.bl true)) (.cons (.c (.str "2")) (.cons (.tup (.cons (.c (.int 2)) .nil)) (.cons (.bin .pow (.c (.int 10)) (.c (.int 30))) .nil)))))))) .nil)))) (.seq (.asg (.nm 4) (.call "_law_one" 15 (.cons (.var 0) (.cons (.lst (.cons (.c .non) (.cons (.c (.int 7)) (.cons (.lst (.cons (.c (.str "keys 1")) .nil)) (.cons (.c (.bl true)) (.cons (.tup (.cons (.c (.str "keys 1")) .nil)) .nil)))))) .nil)))) (.seq (.asg (.nm 2) (.lst (.cons (.call "_law_heard" 10 (.cons (.lam 5 [3]) .nil)) .nil))) (.seq (.ex (.meth (.var 2) "append" (.cons (.call "_law_heard" 10 (.cons (.lam 6 [4, 3]) .nil)) .nil))) (.seq (.ex (.meth (.var 2) "append" (.cons (.call "_law_heard" 10 (.cons (.lam 7 [4, 1]) .nil)) .nil))) (.seq (.ret (.call "_law_same" 9 (.cons (.var 2) (.cons (.lst (.cons (.tup (.cons (.c (.str "BadMany")) (.cons (.var 3) .nil))) (.cons (.tup (.cons (.c (.str "BadMany")) (.cons (.var 3) .nil))) (.cons (.tup (.cons (.c (.str "BadText")) (.cons (.neg (.c (.int 1))) .nil))) .nil)))) .nil)))) .skip))))))⟩
/-- 37: law, slots script go jar n short sign far at -/
def c37 : MI.Code := ⟨1, 8, [4, 5, 6], (.seq (.for .rng1 (.c (.int 4)) .yes (.nm 1) (.seq (.asg (.nm 2) (.call "_law_pool" 13 (.cons (.var 0) (.cons (.var 1) .nil)))) (.seq (.asg (.nm 3) (.call "_law_one" 15 (.cons (.var 2) (.cons (.lst (.cons (.c (.int 0)) (.cons (.c (.int 1)) (.cons (.c (.int 2)) (.cons (.c (.int 2)) (.cons (.c (.int 3)) (.cons (.c (.int 8)) (.cons (.c (.int 40)) .nil)))))))) .nil)))) (.seq (.ite (.or (.not (.call "_law_keys_right" 35 (.cons (.var 2) (.cons (.var 3) .nil)))) (.or (.not (.call "_law_keys_right" 35 (.cons (.var 2) (.cons (.call "_law_take" 14 (.cons (.var 2) (.cons (.c (.int 4)) .nil))) .nil)))) (.not (.call "_law_refused_right" 36 (.cons (.var 2) (.cons (.var 3) .nil)))))) (.seq (.ret (.c (.bl false))) .skip) .skip) (.seq (.asg (.nm 4) (.call "_law_one" 15 (.cons (.var 2) (.cons (.lst (.cons (.c (.str "keys 2 1 0")) (.cons (.c (.str "keys 10 3 12")) (.cons (.c (.str "keys 1 0 0")) .nil)))) .nil)))) (.seq (.for .seq (.sl (.call "_law_mixed" 16 (.cons (.var 2) (.cons (.call "_law_foreign" 28 .nil) .nil))) (.c .non) (.part (.c (.int 7)))) .yes (.nm 5) (.seq (.ite (.cmp .ne (.lc .rng1 (.bin .add (.bi .len (.cons (.var 4) .nil)) (.c (.int 1))) .yes (.nm 7) (.not (.call "_law_read_right" 34 (.cons (.c (.int 2)) (.cons (.bin .add (.bin .add (.sl (.var 4) (.c .non) (.part (.var 7))) (.var 5)) (.sl (.var 4) (.part (.var 7)) (.c .non))) .nil)))) (.var 7)) (.lst .nil)) (.seq (.ret (.c (.bl false))) .skip) .skip) .skip)) .skip)))))) (.seq (.asg (.nm 6) (.bin .add (.c (.str "keys 1")) (.bin .mul (.c (.str " ")) (.c (.int 399994))))) (.seq (.ite (.not (.call "_law_refuses" 12 (.cons (.lam 8 [6]) (.cons (.c (.str "WrongLine")) (.cons (.tup (.cons (.c (.int 0)) (.cons (.c (.int 2)) .nil))) .nil))))) (.seq (.ret (.c (.bl false))) .skip) .skip) (.seq (.ret (.call "_law_refuses" 12 (.cons (.lam 9 [6]) (.cons (.c (.str "TooMany")) (.cons (.c (.int 400001)) .nil))))) .skip))))⟩
/-- 38: Line.__init__, slots self line place -/
def c38 : MI.Code := ⟨3, 3, [], (.seq (.setf (.var 0) "words" (.call "words_of" 3 (.cons (.var 1) .nil))) (.seq (.setf (.var 0) "place" (.var 2)) (.seq (.setf (.var 0) "at" (.c (.int 0))) .skip)))⟩
/-- 39: Line.refuse, slots self at -/
def c39 : MI.Code := ⟨2, 2, [], (.seq (.raise "WrongLine" 4 (.cons (.tup (.cons (.attr (.var 0) "place") (.cons (.var 1) .nil))) .nil)) .skip)⟩
/-- 40: Line.word, slots self -/
def c40 : MI.Code := ⟨1, 1, [], (.seq (.ite (.cmp .eq (.attr (.var 0) "at") (.bi .len (.cons (.attr (.var 0) "words") .nil))) (.seq (.ex (.meth (.var 0) "refuse" (.cons (.attr (.var 0) "at") .nil))) .skip) .skip) (.seq (.augf (.var 0) "at" .add (.c (.int 1))) (.seq (.ret (.idx (.attr (.var 0) "words") (.bin .sub (.attr (.var 0) "at") (.c (.int 1))))) .skip)))⟩
/-- 41: Line.one_of, slots self choices found -/
def c41 : MI.Code := ⟨2, 3, [], (.seq (.asg (.nm 2) (.meth (.var 0) "word" .nil)) (.seq (.ite (.cmp .notin (.var 2) (.var 1)) (.seq (.ex (.meth (.var 0) "refuse" (.cons (.bin .sub (.attr (.var 0) "at") (.c (.int 1))) .nil))) .skip) .skip) (.seq (.ret (.var 2)) .skip)))⟩
/-- 42: Line.number, slots self low high found -/
def c42 : MI.Code := ⟨3, 4, [], (.seq (.asg (.nm 3) (.call "number_of" 4 (.cons (.meth (.var 0) "word" .nil) .nil))) (.seq (.ite (.or (.cmp .is (.var 3) (.c .non)) (.not (.chain .le .le (.var 1) (.var 3) (.var 2)))) (.seq (.ex (.meth (.var 0) "refuse" (.cons (.bin .sub (.attr (.var 0) "at") (.c (.int 1))) .nil))) .skip) .skip) (.seq (.ret (.var 3)) .skip)))⟩
/-- 43: Line.end, slots self -/
def c43 : MI.Code := ⟨1, 1, [], (.seq (.ite (.cmp .lt (.attr (.var 0) "at") (.bi .len (.cons (.attr (.var 0) "words") .nil))) (.seq (.ex (.meth (.var 0) "refuse" (.cons (.attr (.var 0) "at") .nil))) .skip) .skip) .skip)⟩
/-- 44: Lines.__init__, slots self text -/
def c44 : MI.Code := ⟨2, 2, [], (.seq (.setf (.var 0) "lines" (.call "lines_of" 2 (.cons (.var 1) .nil))) (.seq (.setf (.var 0) "at" (.c (.int 0))) .skip))⟩
/-- 45: Lines.next, slots self -/
def c45 : MI.Code := ⟨1, 1, [], (.seq (.ite (.cmp .eq (.attr (.var 0) "at") (.bi .len (.cons (.attr (.var 0) "lines") .nil))) (.seq (.raise "WrongLine" 4 (.cons (.tup (.cons (.attr (.var 0) "at") (.cons (.c (.int 0)) .nil))) .nil)) .skip) .skip) (.seq (.augf (.var 0) "at" .add (.c (.int 1))) (.seq (.ret (.make "Line" 0 (.cons (.idx (.attr (.var 0) "lines") (.bin .sub (.attr (.var 0) "at") (.c (.int 1)))) (.cons (.bin .sub (.attr (.var 0) "at") (.c (.int 1))) .nil)))) .skip)))⟩
/-- 46: Lines.end, slots self -/
def c46 : MI.Code := ⟨1, 1, [], (.seq (.ite (.cmp .lt (.attr (.var 0) "at") (.bi .len (.cons (.attr (.var 0) "lines") .nil))) (.seq (.raise "WrongLine" 4 (.cons (.tup (.cons (.attr (.var 0) "at") (.cons (.c (.int 0)) .nil))) .nil)) .skip) .skip) .skip)⟩
def l0 : MI.Lm := ⟨0, 2, (.call "read_keys" 7 (.cons (.var 1) (.cons (.var 0) .nil)))⟩
def l1 : MI.Lm := ⟨0, 2, (.call "keys_text" 6 (.cons (.var 1) (.cons (.idx (.var 0) (.c (.int 1))) .nil)))⟩
def l2 : MI.Lm := ⟨0, 2, (.call "keys_text" 6 (.cons (.var 0) (.cons (.var 1) .nil)))⟩
def l3 : MI.Lm := ⟨0, 2, (.call "read_keys" 7 (.cons (.var 0) (.cons (.var 1) .nil)))⟩
def l4 : MI.Lm := ⟨0, 2, (.call "keys_text" 6 (.cons (.var 1) (.cons (.var 0) .nil)))⟩
def l5 : MI.Lm := ⟨0, 1, (.call "keys_text" 6 (.cons (.var 0) (.cons (.c .non) .nil)))⟩
def l6 : MI.Lm := ⟨0, 2, (.call "read_keys" 7 (.cons (.var 1) (.cons (.var 0) .nil)))⟩
def l7 : MI.Lm := ⟨0, 2, (.call "read_keys" 7 (.cons (.var 1) (.cons (.var 0) .nil)))⟩
def l8 : MI.Lm := ⟨0, 1, (.call "read_keys" 7 (.cons (.c (.int 0)) (.cons (.var 0) .nil)))⟩
def l9 : MI.Lm := ⟨0, 1, (.call "read_keys" 7 (.cons (.c (.int 0)) (.cons (.bin .add (.var 0) (.c (.str " "))) .nil)))⟩
def clsN0 : List Str := ["BadStock", "BadLot", "BadWish", "NotHeld", "Free", "BadOrder", "NoEdit", "NotTied", "NotWithin", "BadWeights", "BadLevels", "BadAt", "BadLate", "NoOffice", "BadWires", "BadRing", "BadWaits", "TooLate", "BadKeys", "Asked"]
def clsN1 : List Str := ["BadEvents", "BadRun", "BadLog", "NotAsked", "Unheard", "BadRecord", "BadHears", "TooMuch", "BadIndex", "BadShares", "BadDeed", "Gone", "BadOffice", "Crosses", "NoLimit", "Same", "BadSlots", "Wired", "NoWire", "Late"]
def clsN2 : List Str := ["BadClerk", "BadStamp", "BadDeeds", "NothingToUndo", "NothingToRedo", "BadText", "WrongLine", "BadPaper", "Begun", "BadMany", "TooMany"]
def clsN : List Str := clsN0 ++ clsN1 ++ clsN2
def rowOf (x : Str) : List (Str × Bool) := clsN.map fun y => (y, decide (y = x))
def funs0 : List MI.Fn := [⟨("whole", none), .code c0⟩, ⟨("is_keys", none), .code c1⟩, ⟨("lines_of", none), .code c2⟩, ⟨("words_of", none), .code c3⟩, ⟨("number_of", none), .code c4⟩, ⟨("asked_wishes", none), .code c5⟩, ⟨("keys_text", none), .code c6⟩, ⟨("read_keys", none), .code c7⟩, ⟨("_law_is_whole", none), .code c8⟩, ⟨("_law_same", none), .code c9⟩, ⟨("_law_heard", none), .heard [(0, rowOf "BadText"), (1, rowOf "TooMany"), (2, rowOf "BadMany"), (3, rowOf "BadKeys"), (4, rowOf "WrongLine")]⟩, ⟨("_law_tells", none), .code c11⟩, ⟨("_law_refuses", none), .code c12⟩, ⟨("_law_pool", none), .code c13⟩, ⟨("_law_take", none), .code c14⟩, ⟨("_law_one", none), .code c15⟩, ⟨("_law_mixed", none), .code c16⟩, ⟨("_law_is_number", none), .code c17⟩, ⟨("_law_text_wrong", none), .code c18⟩, ⟨("_law_word_number", none), .code c19⟩]
def funs1 : List MI.Fn := [⟨("_law_word_in", none), .code c20⟩, ⟨("_law_word_at", none), .code c21⟩, ⟨("_law_wrong_word", none), .code c22⟩, ⟨("_law_read_words", none), .code c23⟩, ⟨("_law_keys_text", none), .code c24⟩, ⟨("_law_is_keys_pair", none), .code c25⟩, ⟨("_law_read_keys", none), .code c26⟩, ⟨("_law_bent_text", none), .code c27⟩, ⟨("_law_foreign", none), .code c28⟩, ⟨("_law_some_number", none), .code c29⟩, ⟨("_law_some_keys", none), .code c30⟩, ⟨("_law_bent_keys", none), .code c31⟩, ⟨("_law_odd_word", none), .code c32⟩, ⟨("_law_some_texts", none), .code c33⟩, ⟨("_law_read_right", none), .code c34⟩, ⟨("_law_keys_right", none), .code c35⟩, ⟨("_law_refused_right", none), .code c36⟩, ⟨("law", none), .code c37⟩, ⟨("Line", some "__init__"), .code c38⟩, ⟨("Line", some "refuse"), .code c39⟩]
def funs2 : List MI.Fn := [⟨("Line", some "word"), .code c40⟩, ⟨("Line", some "one_of"), .code c41⟩, ⟨("Line", some "number"), .code c42⟩, ⟨("Line", some "end"), .code c43⟩, ⟨("Lines", some "__init__"), .code c44⟩, ⟨("Lines", some "next"), .code c45⟩, ⟨("Lines", some "end"), .code c46⟩]
def funs : List MI.Fn := funs0 ++ (funs1 ++ (funs2))
def G : GP := { funs := funs, lams := [l0, l1, l2, l3, l4, l5, l6, l7, l8, l9], cls := [⟨"Line", 38, [("refuse", 39), ("word", 40), ("one_of", 41), ("number", 42), ("end", 43)], ["words", "place", "at"]⟩, ⟨"Lines", 44, [("next", 45), ("end", 46)], ["lines", "at"]⟩], xcs := ["BadText", "TooMany", "BadMany", "BadKeys", "WrongLine"], cints := [("MOST_SCALE_keys", 1000000), ("MOST_STEP_keys", 1000000000000), ("MOST_SIGNS", 400000), ("MOST_FIGURES", 20), ("MOST_WISHES", 40), ("MOST_SCALE_latetexts", 1000000), ("MOST_STEP_latetexts", 1000000000000)], cstrs := [("FIGURES", "0123456789")], cfree := ["len", "int", "str", "max", "min", "tuple", "list", "any", "all", "isinstance", "range", "bool", "dict", "float", "super", "sum", "sorted", "enumerate", "zip", "abs"] }
def top (i : Nat) : Stmt := PySem.Challenge.pw_asoneoffice_k82_keys_as_texts_sign_by_si.main.body.getD i (.Pass ⟨0, 0, 0, 0⟩)
def de0 : MI.DE := ⟨["thing", "low", "high"], ["thing", "low", "high"], false, top 54⟩
def de1 : MI.DE := ⟨["n", "thing", "scale", "steps", "step"], ["n", "thing"], false, top 58⟩
def de2 : MI.DE := ⟨["text"], ["text"], false, top 64⟩
def de3 : MI.DE := ⟨["line"], ["line"], false, top 65⟩
def de4 : MI.DE := ⟨["word", "sign"], ["word"], false, top 66⟩
def de5 : MI.DE := ⟨["n"], ["n"], false, top 67⟩
def de6 : MI.DE := ⟨["n", "keys", "step"], ["n", "keys"], false, top 73⟩
def de7 : MI.DE := ⟨["n", "text", "lines", "line", "scale", "steps", "_"], ["n", "text"], false, top 74⟩
def de8 : MI.DE := ⟨["thing"], ["thing"], false, top 76⟩
def de9 : MI.DE := ⟨["told", "owed", "at"], ["told", "owed"], false, top 77⟩
def de10 : MI.DE := ⟨["deed", "refused_one", "line"], ["deed"], false, top 79⟩
def de11 : MI.DE := ⟨["deed", "owed"], ["deed", "owed"], false, top 80⟩
def de12 : MI.DE := ⟨["deed", "name", "what"], ["deed", "name", "what"], false, top 81⟩
def de13 : MI.DE := ⟨["script", "k", "cell", "big", "mixed"], ["script", "k"], false, top 82⟩
def de14 : MI.DE := ⟨["jar", "top", "number"], ["jar", "top"], false, top 83⟩
def de15 : MI.DE := ⟨["jar", "things"], ["jar", "things"], false, top 84⟩
def de16 : MI.DE := ⟨["jar", "things", "left_over", "found", "place"], ["jar", "things"], false, top 85⟩
def de17 : MI.DE := ⟨["thing", "low", "high"], ["thing", "low", "high"], false, top 86⟩
def de18 : MI.DE := ⟨["thing", "most"], ["thing", "most"], false, top 87⟩
def de19 : MI.DE := ⟨["word", "sign"], ["word"], false, top 88⟩
def de20 : MI.DE := ⟨["word", "low", "high", "found"], ["word", "low", "high"], false, top 89⟩
def de21 : MI.DE := ⟨["said", "at"], ["said", "at"], false, top 90⟩
def de22 : MI.DE := ⟨["said", "lets", "at"], ["said", "lets"], false, top 91⟩
def de23 : MI.DE := ⟨["text", "first", "bounds_of", "wrong", "lines_now", "said", "found", "i", "x"], ["text", "first", "bounds_of"], false, top 92⟩
def de24 : MI.DE := ⟨["key_pair", "step"], ["key_pair"], false, top 93⟩
def de25 : MI.DE := ⟨["n", "thing", "step"], ["n", "thing"], false, top 94⟩
def de26 : MI.DE := ⟨["n", "text", "owed"], ["n", "text"], false, top 95⟩
def de27 : MI.DE := ⟨["jar", "text", "form", "at", "lines_now", "k", "sign"], ["jar", "text"], false, top 96⟩
def de28 : MI.DE := ⟨[], [], false, top 97⟩
def de29 : MI.DE := ⟨["jar", "most"], ["jar", "most"], false, top 98⟩
def de30 : MI.DE := ⟨["jar", "n", "e"], ["jar", "n"], false, top 99⟩
def de31 : MI.DE := ⟨["jar", "n", "marks", "scale", "steps", "at", "odd", "found"], ["jar", "n", "marks"], false, top 100⟩
def de32 : MI.DE := ⟨["jar"], ["jar"], false, top 101⟩
def de33 : MI.DE := ⟨["jar", "line", "said", "found", "at", "end"], ["jar", "line"], false, top 102⟩
def de34 : MI.DE := ⟨["n", "text", "owed"], ["n", "text"], true, top 103⟩
def de35 : MI.DE := ⟨["jar", "n", "owed", "some", "at", "sign", "size", "line", "marks", "thing", "text"], ["jar", "n"], true, top 104⟩
def de36 : MI.DE := ⟨["jar", "n", "told", "many", "text"], ["jar", "n"], true, top 105⟩
def de37 : MI.DE := ⟨["script", "go", "jar", "n", "short", "sign", "far", "at"], ["script"], true, top 106⟩
def de38 : MI.DE := ⟨["self", "line", "place"], ["self", "line", "place"], false, L2.inClass (top 68) 0⟩
def de39 : MI.DE := ⟨["self", "at"], ["self", "at"], false, L2.inClass (top 68) 1⟩
def de40 : MI.DE := ⟨["self"], ["self"], false, L2.inClass (top 68) 2⟩
def de41 : MI.DE := ⟨["self", "choices", "found"], ["self", "choices"], false, L2.inClass (top 68) 3⟩
def de42 : MI.DE := ⟨["self", "low", "high", "found"], ["self", "low", "high"], false, L2.inClass (top 68) 4⟩
def de43 : MI.DE := ⟨["self"], ["self"], false, L2.inClass (top 68) 6⟩
def de44 : MI.DE := ⟨["self", "text"], ["self", "text"], false, L2.inClass (top 69) 0⟩
def de45 : MI.DE := ⟨["self"], ["self"], false, L2.inClass (top 69) 2⟩
def de46 : MI.DE := ⟨["self"], ["self"], false, L2.inClass (top 69) 3⟩
def des0 : List MI.DE := [de0, de1, de2, de3, de4, de5, de6, de7, de8, de9, de10, de11, de12, de13, de14, de15, de16, de17, de18, de19]
def des1 : List MI.DE := [de20, de21, de22, de23, de24, de25, de26, de27, de28, de29, de30, de31, de32, de33, de34, de35, de36, de37, de38, de39]
def des2 : List MI.DE := [de40, de41, de42, de43, de44, de45, de46]
def des : List MI.DE := des0 ++ (des1 ++ (des2))
def hcl : MI.DE := ⟨["refused_one"], ["refused_one"], false, top 78⟩
def tx : MI.TX := ⟨G, des, hcl⟩
def names0 : List Str := ["_wall", "Refused", "BadStock", "BadLot", "BadWish", "NotHeld", "Free", "BadOrder", "NoEdit", "NotTied", "NotWithin", "BadWeights", "BadLevels", "BadAt", "BadLate", "NoOffice", "BadWires", "BadRing", "BadWaits", "TooLate"]
def names1 : List Str := ["BadKeys", "Asked", "BadEvents", "BadRun", "BadLog", "NotAsked", "Unheard", "BadRecord", "BadHears", "TooMuch", "BadIndex", "BadShares", "BadDeed", "Gone", "BadOffice", "Crosses", "NoLimit", "Same", "BadSlots", "Wired"]
def names2 : List Str := ["NoWire", "Late", "BadClerk", "BadStamp", "BadDeeds", "NothingToUndo", "NothingToRedo", "BadText", "WrongLine", "BadPaper", "Begun", "BadMany", "TooMany", "whole", "MOST_SCALE_keys", "MOST_STEP_keys", "is_keys", "MOST_SIGNS", "MOST_FIGURES", "MOST_WISHES"]
def names3 : List Str := ["FIGURES", "lines_of", "words_of", "number_of", "asked_wishes", "Line", "Lines", "MOST_SCALE_latetexts", "MOST_STEP_latetexts", "keys_text", "read_keys", "_law_is_whole", "_law_same", "_law_classes", "_law_heard", "_law_tells", "_law_refuses", "_law_pool", "_law_take", "_law_one"]
def names4 : List Str := ["_law_mixed", "_law_is_number", "_law_text_wrong", "_law_word_number", "_law_word_in", "_law_word_at", "_law_wrong_word", "_law_read_words", "_law_keys_text", "_law_is_keys_pair", "_law_read_keys", "_law_bent_text", "_law_foreign", "_law_some_number", "_law_some_keys", "_law_bent_keys", "_law_odd_word", "_law_some_texts", "_law_read_right", "_law_keys_right"]
def names5 : List Str := ["_law_refused_right"]
def names : List Str := names0 ++ (names1 ++ (names2 ++ (names3 ++ (names4 ++ (names5)))))
def lawAt : Nat := 106
end K82

set_option Elab.async false
set_option linter.all false
set_option maxRecDepth 100000
set_option maxHeartbeats 0
namespace K82
open PySem PySem.W PySem.Calls PyProof.Rows
abbrev L : OpenLaw := PySem.Challenge.rw_asoneoffice_k82_keys_as_texts_sign_by_si
abbrev R : OpenRow := OpenLaw.row L
noncomputable abbrev endS (w : World) (os : OsState) : Option SharedT := HandSHeadRun.endF (HandSHeadRun.stepQ (HandSHeadRun.denQ HandSHeadRun.tabQ) R.prog w) 60000 R.prog w os
theorem run0a (w : World) (os : OsState) : (endS w os).map (fun s => HandSHeadRun.looksF R.prog (boot_heap w.params) s.abs) = some true := by
  kernel_rfl
theorem run0b (w : World) (os : OsState) : (endS w os).map (fun s => HandSHeadRun.seenQ (view R.prog [lawAt]) names (importedModules R.prog.main.body) (fun s => xlAt (view R.prog [lawAt]) [] s && recOk R.toRowW.records s) s.abs) = some (openGood (view R.prog [lawAt]) names) := by
  kernel_rfl
theorem run1a (w : World) (os : OsState) : (endS w os).map (fun s => MI.okK R.prog tx (MI.frK (HandSHeadRun.getT s) (MI.deepN tx))) = some true := by
  kernel_rfl
theorem run1b (w : World) (os : OsState) : (endS w os).map (fun s => ((MI.fnL tx).all fun d => d.ok (MI.frK (HandSHeadRun.getT s) (MI.deepN tx))) && ((MI.lamP tx).all fun p => MI.tabB (HandSHeadRun.getT s) (MI.frK (HandSHeadRun.getT s) (MI.deepN tx)) p)) = some true := by
  kernel_rfl
theorem run2 (w : World) (os : OsState) : (endS w os).map (fun s => (MI.obG R.prog tx (MI.deepN tx) s).2) = some (MI.vaK tx).2 := by
  kernel_rfl
end K82

set_option Elab.async false
set_option linter.all false
set_option maxRecDepth 100000
set_option maxHeartbeats 4000000
/-! MINI, part 3: how the store lies in the heap. -/
namespace MI
open PySem PySem.Spec PyProof.Rows L2

/-- what the running code leans on: the written part, the ground, where defs and classes stand, the frame's own cells, what a lambda's object is -/
structure Vw where
  K : PySem.W.Frag
  fa : Nat → Addr
  ca : Nat → Addr
  xa : Nat → Addr
  xn : Nat → Str
  /-- the running frame's own cells, by their places in the store -/
  own : List Nat
  /-- cells of the store whose objects stand in the heap -/
  kc : Nat → Addr → Obj → Prop
  /-- lambda, its object, its cells, its code object, that one's name -/
  lamOk : Nat → Obj → List Addr → Addr → Str → Prop
  /-- the tables of code objects -/
  T : List (Addr × Str)

/-- a store in a heap -/
structure Cf where
  φ : List Addr
  H : Hp
  st : Store

mutual
def Rep (w : Vw) (φ : List Addr) (H : Hp) : D → V → Prop
  | .non, v => v = .non
  | .bl b, v => v = .bl b
  | .int i, v => v = .int i
  | .str s, v => v = .str s
  | .tup ds, v => ∃ a xs, v = .ref a ∧ SqT w.K H a xs ∧ RepL w φ H ds xs
  | .loc l, v => ∃ a, v = .ref a ∧ φ[l]? = some a
  | .fn f, v => v = .ref (w.fa f)
  | .clo k ls, v => ∃ a o cs c' q, v = .ref a ∧ w.lamOk k o cs c' q ∧ H c' = some (LamX.CodeO c' q) ∧ (∀ (i l : Nat), ls[i]? = some l → ∃ c : Addr, cs[i]? = some c ∧ φ[l]? = some c) ∧ ls.length = cs.length ∧ ∃ u, H a = some (.frz o (.ext u))
def RepL (w : Vw) (φ : List Addr) (H : Hp) : List D → List V → Prop
  | [], xs => xs = []
  | d :: ds, xs => ∃ x r, xs = x :: r ∧ Rep w φ H d x ∧ RepL w φ H ds r
end

def immB : HO → Bool
  | .lst _ => false
  | .dK _ => false
  | .dT _ => false
  | .set _ _ => false
  | .ins _ _ _ => false
  | .tbl _ => false
  | _ => true
def isTbl : HO → Bool
  | .tbl _ => true
  | _ => false

/-- of one kind -/
def kindEq : Ob → Ob → Prop
  | .lst _, .lst _ => True
  | .fro a, .fro b => a = b
  | .dct _, .dct _ => True
  | .ins c _, .ins c' _ => c = c'
  | .cell _, .cell _ => True
  | _, _ => False
theorem kindEq.refl : ∀ o : Ob, kindEq o o
  | .lst _ => trivial
  | .fro _ => rfl
  | .dct _ => trivial
  | .ins _ _ => rfl
  | .cell _ => trivial
theorem kindEq.trans {a b c : Ob} (h : kindEq a b) (k : kindEq b c) : kindEq a c := by
  cases a <;> cases b <;> cases c <;> first | exact trivial | exact False.elim h | exact False.elim k | exact Eq.trans h k
def trkB : Ob → Bool
  | .cell _ => false
  | _ => true
/-- an object of the store stands there -/
def On (c : Cf) (a : Addr) : Prop := ∃ (l : Nat) (b : Ob), c.st[l]? = some b ∧ trkB b = true ∧ c.φ[l]? = some a
/-- what becomes of a store in a heap; ex: the cells that may change -/
structure Mono (ex : List Nat) (c c' : Cf) : Prop where
  pre : ∀ (l : Nat) (a : Addr), c.φ[l]? = some a → c'.φ[l]? = some a
  imm : ∀ a o, c.H a = some o → immB o = true → c'.H a = some o
  oth : ∀ a o, c.H a = some o → ¬ On c a → isTbl o = false → c'.H a = some o
  tbl : ∀ a ps, c.H a = some (.tbl ps) → ∃ more, c'.H a = some (.tbl (ps ++ more))
  new : ∀ a, On c' a → On c a ∨ c.H a = none
  cel : ∀ (l : Nat) (d : Option D), l ∉ ex → c.st[l]? = some (.cell d) → c'.st[l]? = some (.cell d)
  knd : ∀ (l : Nat) (o : Ob), c.st[l]? = some o → ∃ o', c'.st[l]? = some o' ∧ kindEq o o'
theorem Mono.refl {ex : List Nat} (c : Cf) : Mono ex c c := ⟨fun _ _ h => h, fun _ _ h _ => h, fun _ _ h _ _ => h, fun _ ps h => ⟨#[], by simpa using h⟩, fun _ h => .inl h, fun _ _ _ h => h, fun _ o h => ⟨o, h, kindEq.refl o⟩⟩
theorem Mono.trans {ex : List Nat} {a b c : Cf} (h : Mono ex a b) (k : Mono ex b c) : Mono ex a c where
  pre := fun l x e => k.pre l x (h.pre l x e)
  imm := fun x o e i => k.imm x o (h.imm x o e i) i
  oth := fun x o e n t => k.oth x o (h.oth x o e n t) (fun q => by
    rcases h.new x q with z | z
    · exact n z
    · rw [z] at e; cases e) t
  tbl := fun x ps e => by
    obtain ⟨m, e1⟩ := h.tbl x ps e
    obtain ⟨m', e2⟩ := k.tbl x _ e1
    exact ⟨m ++ m', by rw [e2, Array.append_assoc]⟩
  new := fun x q => by
    rcases k.new x q with z | z
    · exact h.new x z
    · cases e : a.H x with
      | none => exact .inr rfl
      | some o =>
        by_cases hx : On a x
        · exact .inl hx
        · cases ht : isTbl o with
          | false =>
            have := h.oth x o e hx ht
            rw [z] at this; cases this
          | true =>
            cases o with
            | tbl ps =>
              obtain ⟨m, e1⟩ := h.tbl x ps e
              rw [z] at e1; cases e1
            | _ => cases ht
  cel := fun l d n e => k.cel l d n (h.cel l d n e)
  knd := fun l o e => by
    obtain ⟨o1, e1, k1⟩ := h.knd l o e
    obtain ⟨o2, e2, k2⟩ := k.knd l o1 e1
    exact ⟨o2, e2, k1.trans k2⟩
theorem Mono.wide {ex ex' : List Nat} {a b : Cf} (h : Mono ex a b) (s : ∀ l, l ∈ ex → l ∈ ex') : Mono ex' a b :=
  ⟨h.pre, h.imm, h.oth, h.tbl, h.new, fun l d n e => h.cel l d (fun q => n (s l q)) e, h.knd⟩

/-! ### values stay -/
/-- what a value leans on stays -/
structure Ime (c c' : Cf) : Prop where
  pre : ∀ (l : Nat) (a : Addr), c.φ[l]? = some a → c'.φ[l]? = some a
  imm : ∀ a o, c.H a = some o → immB o = true → c'.H a = some o
theorem Mono.ime {ex : List Nat} {c c' : Cf} (m : Mono ex c c') : Ime c c' := ⟨m.pre, m.imm⟩
theorem Ime.trans {a b c : Cf} (h : Ime a b) (k : Ime b c) : Ime a c := ⟨fun l x e => k.pre l x (h.pre l x e), fun x o e i => k.imm x o (h.imm x o e i) i⟩
theorem sqT_mono {K : PySem.W.Frag} {c c' : Cf} (m : Ime c c') {a : Addr} {xs : List V} (h : SqT K c.H a xs) : SqT K c'.H a xs := by
  rcases h with h | h
  · rcases h with h | ⟨o, h⟩
    · exact .inl (.inl (m.imm a _ h rfl))
    · exact .inl (.inr ⟨o, m.imm a _ h rfl⟩)
  · exact .inr h
mutual
theorem Rep.ime {w : Vw} {c c' : Cf} (m : Ime c c') : ∀ {d : D} {v : V}, Rep w c.φ c.H d v → Rep w c'.φ c'.H d v
  | .non, _, h => h
  | .bl _, _, h => h
  | .int _, _, h => h
  | .str _, _, h => h
  | .tup ds, v, h => by
    unfold Rep at h ⊢
    obtain ⟨a, xs, e, hx, hr⟩ := h
    exact ⟨a, xs, e, sqT_mono m hx, RepL.ime m hr⟩
  | .loc l, v, h => by
    unfold Rep at h ⊢
    obtain ⟨a, e, hl⟩ := h
    exact ⟨a, e, m.pre l a hl⟩
  | .fn _, _, h => h
  | .clo k ls, v, h => by
    unfold Rep at h ⊢
    obtain ⟨a, o, cs, c', q, e, hk, hcd, hc, hl, u, hb⟩ := h
    refine ⟨a, o, cs, c', q, e, hk, m.imm c' _ hcd rfl, fun i l hi => ?_, hl, u, m.imm a _ hb rfl⟩
    obtain ⟨b, h1, h2⟩ := hc i l hi
    exact ⟨b, h1, m.pre l b h2⟩
theorem RepL.ime {w : Vw} {c c' : Cf} (m : Ime c c') : ∀ {ds : List D} {xs : List V}, RepL w c.φ c.H ds xs → RepL w c'.φ c'.H ds xs
  | [], _, h => h
  | d :: ds, xs, h => by
    unfold RepL at h ⊢
    obtain ⟨x, r, e, h1, h2⟩ := h
    exact ⟨x, r, e, Rep.ime m h1, RepL.ime m h2⟩
end
theorem Rep.mono {w : Vw} {ex : List Nat} {c c' : Cf} (m : Mono ex c c') {d : D} {v : V} (h : Rep w c.φ c.H d v) : Rep w c'.φ c'.H d v := h.ime m.ime
theorem RepL.mono {w : Vw} {ex : List Nat} {c c' : Cf} (m : Mono ex c c') {ds : List D} {xs : List V} (h : RepL w c.φ c.H ds xs) : RepL w c'.φ c'.H ds xs := h.ime m.ime
section
variable {w : Vw} {φ : List Addr} {H : Hp}
theorem RepL.nil : RepL w φ H [] [] := by
  unfold RepL
  rfl
theorem RepL.cons {d : D} {ds : List D} {x : V} {xs : List V} (h : Rep w φ H d x) (k : RepL w φ H ds xs) : RepL w φ H (d :: ds) (x :: xs) := by
  unfold RepL
  exact ⟨x, xs, rfl, h, k⟩
theorem RepL.nil_inv {xs : List V} (h : RepL w φ H [] xs) : xs = [] := by
  unfold RepL at h
  exact h
theorem RepL.cons_inv {d : D} {ds : List D} {xs : List V} (h : RepL w φ H (d :: ds) xs) : ∃ x r, xs = x :: r ∧ Rep w φ H d x ∧ RepL w φ H ds r := by
  unfold RepL at h
  exact h
theorem RepL.length : ∀ {ds : List D} {xs : List V}, RepL w φ H ds xs → ds.length = xs.length
  | [], xs, h => by
    rw [h.nil_inv]
    rfl
  | d :: ds, xs, h => by
    obtain ⟨x, r, rfl, _, k⟩ := h.cons_inv
    simp [k.length]
theorem RepL.append : ∀ {ds es : List D} {xs ys : List V}, RepL w φ H ds xs → RepL w φ H es ys → RepL w φ H (ds ++ es) (xs ++ ys)
  | [], es, xs, ys, h, k => by
    rw [h.nil_inv]
    exact k
  | d :: ds, es, xs, ys, h, k => by
    obtain ⟨x, r, rfl, h1, h2⟩ := h.cons_inv
    exact RepL.cons h1 (h2.append k)
theorem RepL.get : ∀ {ds : List D} {xs : List V} {i : Nat} {d : D}, RepL w φ H ds xs → ds[i]? = some d → ∃ x, xs[i]? = some x ∧ Rep w φ H d x
  | [], _, _, _, _, e => by simp at e
  | d :: ds, xs, 0, e, h, q => by
    obtain ⟨x, r, rfl, h1, _⟩ := h.cons_inv
    simp at q
    subst q
    exact ⟨x, by simp, h1⟩
  | d :: ds, xs, i + 1, e, h, q => by
    obtain ⟨x, r, rfl, _, h2⟩ := h.cons_inv
    obtain ⟨y, h3, h4⟩ := RepL.get (i := i) h2 (by simpa using q)
    exact ⟨y, by simpa using h3, h4⟩
theorem RepL.take : ∀ {ds : List D} {xs : List V} (n : Nat), RepL w φ H ds xs → RepL w φ H (ds.take n) (xs.take n)
  | [], xs, n, h => by
    rw [h.nil_inv]
    simp
    exact RepL.nil
  | d :: ds, xs, 0, h => by
    simp
    exact RepL.nil
  | d :: ds, xs, n + 1, h => by
    obtain ⟨x, r, rfl, h1, h2⟩ := h.cons_inv
    exact RepL.cons h1 (h2.take n)
theorem RepL.drop : ∀ {ds : List D} {xs : List V} (n : Nat), RepL w φ H ds xs → RepL w φ H (ds.drop n) (xs.drop n)
  | [], xs, n, h => by
    rw [h.nil_inv]
    simp
    exact RepL.nil
  | d :: ds, xs, 0, h => h
  | d :: ds, xs, n + 1, h => by
    obtain ⟨x, r, rfl, h1, h2⟩ := h.cons_inv
    exact h2.drop n
theorem RepL.set : ∀ {ds : List D} {xs : List V} (n : Nat) {d : D} {x : V}, RepL w φ H ds xs → Rep w φ H d x → RepL w φ H (ds.set n d) (xs.set n x)
  | [], xs, n, d, x, h, k => by
    rw [h.nil_inv]
    simp
    exact RepL.nil
  | e :: ds, xs, 0, d, x, h, k => by
    obtain ⟨y, r, rfl, h1, h2⟩ := h.cons_inv
    exact RepL.cons k h2
  | e :: ds, xs, n + 1, d, x, h, k => by
    obtain ⟨y, r, rfl, h1, h2⟩ := h.cons_inv
    exact RepL.cons h1 (h2.set n k)
theorem RepL.erase : ∀ {ds : List D} {xs : List V} (n : Nat), RepL w φ H ds xs → RepL w φ H (ds.eraseIdx n) (xs.eraseIdx n)
  | [], xs, n, h => by
    rw [h.nil_inv]
    simp
    exact RepL.nil
  | d :: ds, xs, 0, h => by
    obtain ⟨x, r, rfl, h1, h2⟩ := h.cons_inv
    exact h2
  | d :: ds, xs, n + 1, h => by
    obtain ⟨x, r, rfl, h1, h2⟩ := h.cons_inv
    exact RepL.cons h1 (h2.erase n)
theorem RepL.strs : ∀ {ys : List Str} {xs : List V}, RepL w φ H (ys.map .str) xs → xs = ys.map .str
  | [], xs, h => h.nil_inv
  | y :: ys, xs, h => by
    obtain ⟨x, r, rfl, h1, h2⟩ := h.cons_inv
    unfold Rep at h1
    rw [h1, h2.strs]
    rfl
theorem RepL.of_strs : ∀ (ys : List Str), RepL w φ H (ys.map .str) (ys.map .str)
  | [] => RepL.nil
  | y :: ys => RepL.cons (by unfold Rep; rfl) (RepL.of_strs ys)
theorem strsOf_eq : ∀ {ds : List D} {ys : List Str}, strsOf ds = some ys → ds = ys.map .str
  | [], ys, h => by
    cases h
    rfl
  | d :: ds, ys, h => by
    cases d with
    | str s =>
      unfold strsOf at h
      cases e : strsOf ds with
      | none => rw [e] at h; cases h
      | some zs =>
        rw [e] at h
        cases h
        rw [strsOf_eq e]
        rfl
    | _ => cases h
theorem boolsOf_eq : ∀ {ds : List D} {ys : List Bool}, boolsOf ds = some ys → ds = ys.map .bl
  | [], ys, h => by
    cases h
    rfl
  | d :: ds, ys, h => by
    cases d with
    | bl s =>
      unfold boolsOf at h
      cases e : boolsOf ds with
      | none => rw [e] at h; cases h
      | some zs =>
        rw [e] at h
        cases h
        rw [boolsOf_eq e]
        rfl
    | _ => cases h
theorem RepL.bools : ∀ {ys : List Bool} {xs : List V}, RepL w φ H (ys.map .bl) xs → xs = ys.map .bl
  | [], xs, h => h.nil_inv
  | y :: ys, xs, h => by
    obtain ⟨x, r, rfl, h1, h2⟩ := h.cons_inv
    unfold Rep at h1
    rw [h1, h2.bools]
    rfl
end

/-! ### the store -/
/-- an instance's attributes -/
def RepF (w : Vw) (φ : List Addr) (H : Hp) (fs : List (Str × D)) (gs : List (Str × V)) : Prop := fs.map (·.1) = gs.map (·.1) ∧ RepL w φ H (fs.map (·.2)) (gs.map (·.2))
def ObR (w : Vw) (φ : List Addr) (H : Hp) (l : Nat) (a : Addr) : Ob → Prop
  | .lst ds => ∃ xs, H a = some (.lst xs) ∧ RepL w φ H ds xs
  | .fro ds => ∃ o xs, H a = some (.frz o (.lst xs)) ∧ RepL w φ H ds xs
  | .ins c fs => ∃ dx gs, H a = some (.ins (w.ca c) dx gs) ∧ RepF w φ H fs gs
  | .dct _ => False
  | .cell d => l ∈ w.own ∨ d = none ∨ ∃ (o : Obj) (u : Value) (v : V) (e : D), d = some e ∧ o.data = .cell (some u) ∧ RelV v u ∧ Rep w φ H e v ∧ w.kc l a o
structure SR (w : Vw) (c : Cf) : Prop where
  len : c.φ.length = c.st.length
  nd : ∀ (l l' : Nat) (o o' : Ob) (a : Addr), c.st[l]? = some o → c.st[l']? = some o' → trkB o = true → trkB o' = true → c.φ[l]? = some a → c.φ[l']? = some a → l = l'
  ob : ∀ (l : Nat) (o : Ob) (a : Addr), c.st[l]? = some o → c.φ[l]? = some a → ObR w c.φ c.H l a o
  tabs : LamX.Tabs w.T c.H
theorem tabs_upd {T : List (Addr × Str)} {H : Hp} {a : Addr} {o : HO} (t : LamX.Tabs T H) (h : ∀ u, H a = some u → isTbl u = false ∧ ∀ φ, u ≠ .ext φ) : LamX.Tabs T (upd H a o) := fun p hp => by
  obtain ⟨ps, h1, h2, h3⟩ := t p hp
  refine ⟨ps, ?_, h2, fun pos cv hc => ?_⟩
  · rw [upd_ne]
    · exact h1
    · rintro rfl
      exact absurd (h _ h1).1 (by simp [isTbl])
  · obtain ⟨c, e1, e2⟩ := h3 pos cv hc
    refine ⟨c, e1, ?_⟩
    rw [upd_ne]
    · exact e2
    · rintro rfl
      exact (h _ e2).2 _ rfl
theorem RepF.mono {w : Vw} {ex : List Nat} {c c' : Cf} (m : Mono ex c c') {fs : List (Str × D)} {gs : List (Str × V)} (h : RepF w c.φ c.H fs gs) : RepF w c'.φ c'.H fs gs := ⟨h.1, h.2.mono m⟩

theorem Mono.fresh {ex : List Nat} {c : Cf} {p : Addr} {o : HO} (hp : c.H p = none) : Mono ex c { c with H := upd c.H p o } where
  pre := fun _ _ h => h
  imm := fun a u h _ => by
    show upd c.H p o a = some u
    rw [upd_ne (ne_of_none h hp)]
    exact h
  oth := fun a u h _ _ => by
    show upd c.H p o a = some u
    rw [upd_ne (ne_of_none h hp)]
    exact h
  tbl := fun a ps h => ⟨#[], by
    show upd c.H p o a = _
    rw [upd_ne (ne_of_none h hp)]
    simpa using h⟩
  new := fun _ h => .inl h
  cel := fun _ _ _ h => h
  knd := fun _ o h => ⟨o, h, kindEq.refl o⟩
theorem ObR.fresh {w : Vw} {c : Cf} {l : Nat} {p a : Addr} {o : HO} {b : Ob} (hp : c.H p = none) (h : ObR w c.φ c.H l a b) : ObR w c.φ (upd c.H p o) l a b := by
  have m : Mono [] c { c with H := upd c.H p o } := Mono.fresh hp
  have kk : ∀ u, c.H a = some u → upd c.H p o a = some u := fun u q => by
    rw [upd_ne (ne_of_none q hp)]
    exact q
  cases b with
  | lst ds =>
    obtain ⟨xs, h1, h2⟩ := h
    exact ⟨xs, kk _ h1, RepL.mono m h2⟩
  | fro ds =>
    obtain ⟨o', xs, h1, h2⟩ := h
    exact ⟨o', xs, kk _ h1, RepL.mono m h2⟩
  | ins k fs =>
    obtain ⟨dx, gs, h1, h2⟩ := h
    exact ⟨dx, gs, kk _ h1, RepF.mono m h2⟩
  | dct kvs => exact h
  | cell d =>
    rcases h with h | h | ⟨ob, u, v, e, h1, h2, h3, h4, h5⟩
    · exact .inl h
    · exact .inr (.inl h)
    · exact .inr (.inr ⟨ob, u, v, e, h1, h2, h3, Rep.mono m h4, h5⟩)
theorem SR.fresh {w : Vw} {c : Cf} {p : Addr} {o : HO} (s : SR w c) (hp : c.H p = none) : SR w { c with H := upd c.H p o } :=
  ⟨s.len, s.nd, fun l b a h1 h2 => ObR.fresh hp (s.ob l b a h1 h2), tabs_upd s.tabs fun u hu => by rw [hp] at hu; cases hu⟩

theorem get_append_new {α : Type} {xs : List α} {y z : α} {i : Nat} (h : (xs ++ [y])[i]? = some z) : xs[i]? = some z ∨ (i = xs.length ∧ z = y) := by
  by_cases hi : i < xs.length
  · rw [List.getElem?_append_left hi] at h
    exact .inl h
  · rw [List.getElem?_append_right (by omega)] at h
    by_cases e : i = xs.length
    · subst e
      simp at h
      exact .inr ⟨rfl, h.symm⟩
    · rw [List.getElem?_eq_none (by simp; omega)] at h
      cases h
theorem get_append_old {α : Type} {xs ys : List α} {z : α} {i : Nat} (h : xs[i]? = some z) : (xs ++ ys)[i]? = some z := by
  have hi : i < xs.length := by
    rcases Nat.lt_or_ge i xs.length with q | q
    · exact q
    · rw [List.getElem?_eq_none q] at h
      cases h
  rw [List.getElem?_append_left hi]
  exact h
theorem Mono.alloc {ex : List Nat} {c : Cf} {p : Addr} {o : HO} {b : Ob} (hp : c.H p = none) (hn : c.φ.length = c.st.length) : Mono ex c ⟨c.φ ++ [p], upd c.H p o, c.st ++ [b]⟩ where
  pre := fun _ _ h => get_append_old h
  imm := (Mono.fresh (ex := ex) hp).imm
  oth := (Mono.fresh (ex := ex) hp).oth
  tbl := (Mono.fresh (ex := ex) hp).tbl
  new := fun a ⟨l, u, e, t, f⟩ => by
    rcases get_append_new f with f | ⟨_, rfl⟩
    · rcases get_append_new e with e | ⟨rfl, _⟩
      · exact .inl ⟨l, u, e, t, f⟩
      · rw [List.getElem?_eq_none (by rw [hn]; exact Nat.le_refl _)] at f
        cases f
    · exact .inr hp
  cel := fun _ _ _ h => get_append_old h
  knd := fun _ o h => ⟨o, get_append_old h, kindEq.refl o⟩
theorem ObR.ime_keep {w : Vw} {c c' : Cf} {l : Nat} {a : Addr} {b : Ob} (m : Ime c c') (kk : trkB b = true → ∀ u, c.H a = some u → c'.H a = some u) (h : ObR w c.φ c.H l a b) : ObR w c'.φ c'.H l a b := by
  cases b with
  | lst ds =>
    obtain ⟨xs, h1, h2⟩ := h
    exact ⟨xs, kk rfl _ h1, RepL.ime m h2⟩
  | fro ds =>
    obtain ⟨o', xs, h1, h2⟩ := h
    exact ⟨o', xs, kk rfl _ h1, RepL.ime m h2⟩
  | ins k fs =>
    obtain ⟨dx, gs, h1, h2⟩ := h
    exact ⟨dx, gs, kk rfl _ h1, h2.1, RepL.ime m h2.2⟩
  | dct kvs => exact h
  | cell d =>
    rcases h with h | h | ⟨ob, u, v, e, h1, h2, h3, h4, h5⟩
    · exact .inl h
    · exact .inr (.inl h)
    · exact .inr (.inr ⟨ob, u, v, e, h1, h2, h3, Rep.ime m h4, h5⟩)
theorem ObR.mono_keep {w : Vw} {ex : List Nat} {c c' : Cf} {l : Nat} {a : Addr} {b : Ob} (m : Mono ex c c') (kk : ∀ u, c.H a = some u → c'.H a = some u) (h : ObR w c.φ c.H l a b) : ObR w c'.φ c'.H l a b := h.ime_keep m.ime fun _ => kk
/-- what is tracked of a store's object is not free -/
theorem ObR.there {w : Vw} {φ : List Addr} {H : Hp} {l : Nat} {a : Addr} {b : Ob} (h : ObR w φ H l a b) (t : trkB b = true) : ∃ o, H a = some o := by
  cases b with
  | lst ds =>
    obtain ⟨xs, h1, h2⟩ := h
    exact ⟨_, h1⟩
  | fro ds =>
    obtain ⟨o', xs, h1, h2⟩ := h
    exact ⟨_, h1⟩
  | ins k fs =>
    obtain ⟨dx, gs, h1, h2⟩ := h
    exact ⟨_, h1⟩
  | dct kvs => exact h.elim
  | cell d => cases t
/-- a new object of the store -/
theorem SR.alloc {w : Vw} {c : Cf} {p : Addr} {o : HO} {b : Ob} (s : SR w c) (hp : c.H p = none) (h : ObR w (c.φ ++ [p]) (upd c.H p o) c.st.length p b) : SR w ⟨c.φ ++ [p], upd c.H p o, c.st ++ [b]⟩ where
  tabs := tabs_upd s.tabs fun u hu => by rw [hp] at hu; cases hu
  len := by simp [s.len]
  nd := fun l l' b1 b2 a e1 e2 t1 t2 f1 f2 => by
    have key : ∀ (l : Nat) (b1 : Ob), (c.st ++ [b])[l]? = some b1 → trkB b1 = true → (c.φ ++ [p])[l]? = some a → (c.st[l]? = some b1 ∧ c.φ[l]? = some a ∧ a ≠ p) ∨ (l = c.st.length ∧ a = p) := fun l b1 e t f => by
      rcases get_append_new e with e | ⟨e, _⟩
      · have hl : l < c.φ.length := by
          rw [s.len]
          rcases Nat.lt_or_ge l c.st.length with q | q
          · exact q
          · rw [List.getElem?_eq_none q] at e; cases e
        rw [List.getElem?_append_left hl] at f
        obtain ⟨u, hu⟩ := (s.ob l b1 a e f).there t
        exact .inl ⟨e, f, ne_of_none hu hp⟩
      · subst e
        rw [← s.len] at f
        simp at f
        exact .inr ⟨rfl, f.symm⟩
    rcases key l b1 e1 t1 f1 with ⟨e1, f1, n1⟩ | ⟨e1, n1⟩ <;> rcases key l' b2 e2 t2 f2 with ⟨e2, f2, n2⟩ | ⟨e2, n2⟩
    · exact s.nd l l' b1 b2 a e1 e2 t1 t2 f1 f2
    · exact absurd n2 n1
    · exact absurd n1 n2
    · rw [e1, e2]
  ob := fun l b1 a e f => by
    rcases get_append_new e with e | ⟨e2, rfl⟩
    · have hl : l < c.φ.length := by
        rw [s.len]
        rcases Nat.lt_or_ge l c.st.length with q | q
        · exact q
        · rw [List.getElem?_eq_none q] at e; cases e
      rw [List.getElem?_append_left hl] at f
      exact ObR.mono_keep (c' := ⟨c.φ ++ [p], upd c.H p o, c.st ++ [b]⟩) (Mono.alloc (ex := []) hp s.len) (fun u q => by
        show upd c.H p o a = some u
        rw [upd_ne (ne_of_none q hp)]
        exact q) (s.ob l b1 a e f)
    · subst e2
      have f' : (c.φ ++ [p])[c.st.length]? = some a := f
      rw [← s.len] at f'
      simp at f'
      subst f'
      exact h
/-- a written object of the store -/
theorem Mono.write {ex : List Nat} {c : Cf} {l : Nat} {a : Addr} {o old : HO} {b b0 : Ob} (ha : c.φ[l]? = some a) (hb : c.st[l]? = some b0) (tb : trkB b0 = true) (hk : kindEq b0 b) (ho : c.H a = some old) (hi : immB old = false) (ht : isTbl old = false) : Mono ex c ⟨c.φ, upd c.H a o, c.st.set l b⟩ where
  pre := fun _ _ h => h
  imm := fun x u h i => by
    show upd c.H a o x = some u
    rw [upd_ne]
    · exact h
    · rintro rfl
      rw [ho] at h
      cases h
      rw [hi] at i
      cases i
  oth := fun x u h n _ => by
    show upd c.H a o x = some u
    rw [upd_ne]
    · exact h
    · rintro rfl
      exact n ⟨l, b0, hb, tb, ha⟩
  tbl := fun x ps h => ⟨#[], by
    show upd c.H a o x = _
    rw [upd_ne]
    · simpa using h
    · rintro rfl
      rw [ho] at h
      cases h
      cases ht⟩
  new := fun x ⟨k, u, e, t, f⟩ => by
    by_cases q : l = k
    · subst q
      exact .inl ⟨l, b0, hb, tb, f⟩
    · have e : (c.st.set l b)[k]? = some u := e
      rw [List.getElem?_set_ne q] at e
      exact .inl ⟨k, u, e, t, f⟩
  cel := fun k d _ h => by
    show (c.st.set l b)[k]? = _
    rw [List.getElem?_set_ne]
    · exact h
    · rintro rfl
      rw [hb] at h
      cases h
      cases tb
  knd := fun k o h => by
    by_cases q : l = k
    · subst q
      rw [hb] at h
      cases h
      have hl : l < c.st.length := by
        rcases Nat.lt_or_ge l c.st.length with q | q
        · exact q
        · rw [List.getElem?_eq_none q] at hb; cases hb
      exact ⟨b, by show (c.st.set l b)[l]? = _; rw [List.getElem?_set_self hl], hk⟩
    · exact ⟨o, by show (c.st.set l b)[k]? = _; rw [List.getElem?_set_ne q]; exact h, kindEq.refl o⟩
theorem SR.write {w : Vw} {c : Cf} {l : Nat} {a : Addr} {o old : HO} {b b0 : Ob} (s : SR w c) (ha : c.φ[l]? = some a) (hb : c.st[l]? = some b0) (tb : trkB b0 = true) (tb' : trkB b = true) (hk : kindEq b0 b) (ho : c.H a = some old) (hi : immB old = false) (ht : isTbl old = false)
    (h : ObR w c.φ (upd c.H a o) l a b) : SR w ⟨c.φ, upd c.H a o, c.st.set l b⟩ where
  tabs := tabs_upd s.tabs fun u hu => by
    rw [ho] at hu
    cases hu
    refine ⟨ht, ?_⟩
    rintro φ rfl
    cases hi
  len := by simp [s.len]
  nd := fun k k' b1 b2 x e1 e2 t1 t2 f1 f2 => by
    have key : ∀ (k : Nat) (b1 : Ob), (c.st.set l b)[k]? = some b1 → trkB b1 = true → ∃ b2, c.st[k]? = some b2 ∧ trkB b2 = true := fun k b1 e t => by
      by_cases q : l = k
      · subst q
        exact ⟨b0, hb, tb⟩
      · rw [List.getElem?_set_ne q] at e
        exact ⟨b1, e, t⟩
    obtain ⟨u1, g1, g2⟩ := key k b1 e1 t1
    obtain ⟨u2, g3, g4⟩ := key k' b2 e2 t2
    exact s.nd k k' u1 u2 x g1 g3 g2 g4 f1 f2
  ob := fun k b1 x e f => by
    have m := Mono.write (ex := []) (o := o) (b := b) ha hb tb hk ho hi ht
    by_cases q : l = k
    · subst q
      have hl : l < c.st.length := by
        rcases Nat.lt_or_ge l c.st.length with q | q
        · exact q
        · rw [List.getElem?_eq_none q] at hb; cases hb
      have e' : (c.st.set l b)[l]? = some b1 := e
      rw [List.getElem?_set_self hl] at e'
      cases e'
      have f' : c.φ[l]? = some x := f
      rw [ha] at f'
      cases f'
      exact h
    · have e' : (c.st.set l b)[k]? = some b1 := e
      rw [List.getElem?_set_ne q] at e'
      have f' : c.φ[k]? = some x := f
      have old1 := s.ob k b1 x e' f'
      by_cases hx : x = a
      · subst hx
        cases tk : trkB b1 with
        | true => exact absurd (s.nd l k b0 b1 x hb e' tb tk ha f') q
        | false =>
          cases b1 with
          | cell d =>
            rcases old1 with z | z | ⟨ob, u, v, d', h1, h2, h3, h4, h5⟩
            · exact .inl z
            · exact .inr (.inl z)
            · exact .inr (.inr ⟨ob, u, v, d', h1, h2, h3, Rep.mono m h4, h5⟩)
          | _ => cases tk
      · exact ObR.mono_keep (c' := ⟨c.φ, upd c.H a o, c.st.set l b⟩) m (fun u r => by
          show upd c.H a o x = some u
          rw [upd_ne hx]
          exact r) old1
end MI

set_option Elab.async false
set_option linter.all false
set_option maxRecDepth 100000
set_option maxHeartbeats 4000000
/-! MINI, part 4: a computation's readings; frames; values operated on. -/
namespace MI
open PySem PySem.Spec PyProof.Rows L2

/-! ### what a computation comes to, in the heap -/
def ExR (w : Vw) (φ : List Addr) (H : Hp) (x : Ex) (cls : Value) (da : Option Addr) : Prop :=
  ∃ a v, cls = .ref (w.xa x.cls) ∧ da = some a ∧ H a = some (.xd [("what", v), ("word", .str (w.xn x.cls))]) ∧ Rep w φ H x.what v
/-- an abstract value and what stands for it -/
abbrev RR (α β : Type) := List Addr → Hp → α → β → Prop
def Post {α β : Type} (w : Vw) (R : RR α β) (c : Cf) (r : Res α) (Q : β → Hp → Prop) (E : XK) : Prop := match r with
  | .ok d st' => ∀ (φ' : List Addr) (H' : Hp) (v : β), Mono [] c ⟨φ', H', st'⟩ → SR w ⟨φ', H', st'⟩ → R φ' H' d v → Q v H'
  | .ex x st' => ∀ (φ' : List Addr) (H' : Hp) (cls : Value) (da : Option Addr), Mono [] c ⟨φ', H', st'⟩ → SR w ⟨φ', H', st'⟩ → ExR w φ' H' x cls da → E cls da H'
  | .no => False
def PostM {α β : Type} (w : Vw) (R : RR α β) (c : Cf) (m : M α) (Q : β → Hp → Prop) (E : XK) : Prop := Post w R c (m c.st) Q E
section
variable {α β γ δ : Type} {w : Vw} {c c' : Cf} {Q : β → Hp → Prop} {E : XK}
theorem Post.imp {R : RR α β} {r : Res α} {Q' : β → Hp → Prop} (h : Post w R c r Q E) (k : ∀ v H, Q v H → Q' v H) : Post w R c r Q' E := by
  cases r with
  | ok d st' => exact fun φ' H' v m s r => k v H' (h φ' H' v m s r)
  | ex x st' => exact h
  | no => exact h
/-- from a later place -/
theorem Post.later {R : RR α β} {r : Res α} (m : Mono [] c c') (h : Post w R c r Q E) : Post w R c' r Q E := by
  cases r with
  | ok d st' => exact fun φ' H' v m' s r => h φ' H' v (m.trans m') s r
  | ex x st' => exact fun φ' H' cls da m' s r => h φ' H' cls da (m.trans m') s r
  | no => exact h
/-- a computation first, then the rest -/
theorem PostM.bn {R : RR α β} {R' : RR γ δ} {m : M γ} {f : γ → M α} (h : PostM w R c (bnd m f) Q E) :
    PostM w R' c m (fun v' H' => ∃ d' c', c'.H = H' ∧ Mono [] c c' ∧ SR w c' ∧ R' c'.φ c'.H d' v' ∧ PostM w R c' (f d') Q E) E := by
  unfold PostM MI.bnd at h
  unfold PostM
  cases e : m c.st with
  | ok d st' =>
    rw [e] at h
    exact fun φ' H' v' mo s r => ⟨d, ⟨φ', H', st'⟩, rfl, mo, s, r, Post.later mo h⟩
  | ex x st' =>
    rw [e] at h
    exact h
  | no =>
    rw [e] at h
    exact h.elim
theorem PostM.rt {R : RR α β} {d : α} (h : PostM w R c (ret d) Q E) (s : SR w c) {v : β} (r : R c.φ c.H d v) : Q v c.H := h c.φ c.H v (Mono.refl c) s r
theorem PostM.nope {R : RR α β} (h : PostM w R c MI.no Q E) : False := h
theorem PostM.grd {R : RR α β} {b : Bool} {f : Unit → M α} (h : PostM w R c (MI.bnd (guard b) f) Q E) : b = true ∧ PostM w R c (f ()) Q E := by
  cases b with
  | true => exact ⟨rfl, h⟩
  | false => exact h.elim
theorem PostM.opt {R : RR α β} {o : Option γ} {f : γ → M α} (h : PostM w R c (MI.bnd (MI.ofO o) f) Q E) : ∃ x, o = some x ∧ PostM w R c (f x) Q E := by
  cases o with
  | some x => exact ⟨x, rfl, h⟩
  | none => exact h.elim
/-- what the store holds there -/
theorem PostM.sq {R : RR α β} {d : D} {f : List D → M α} (h : PostM w R c (MI.bnd (seqOf d) f) Q E) :
    ∃ ds, ((d = .tup ds) ∨ ∃ l, d = .loc l ∧ (c.st[l]? = some (.lst ds) ∨ c.st[l]? = some (.fro ds))) ∧ PostM w R c (f ds) Q E := by
  unfold PostM MI.bnd at h
  cases d with
  | tup ds => exact ⟨ds, .inl rfl, h⟩
  | loc l =>
    unfold MI.seqOf at h
    cases e : c.st[l]? with
    | none =>
      simp only [e] at h
      exact h.elim
    | some o =>
      cases o with
      | lst ds =>
        simp only [e] at h
        exact ⟨ds, .inr ⟨l, rfl, .inl e⟩, h⟩
      | fro ds =>
        simp only [e] at h
        exact ⟨ds, .inr ⟨l, rfl, .inr e⟩, h⟩
      | _ =>
        simp only [e] at h
        exact h.elim
  | _ => exact h.elim
end

abbrev RD (w : Vw) : RR D V := fun φ H d v => Rep w φ H d v
/-- an argument list -/
abbrev RL (w : Vw) : RR D (List V) := fun φ H d vs => ∃ ds, d = .tup ds ∧ RepL w φ H ds vs
abbrev RB : RR Bool Bool := fun _ _ a b => a = b

/-! ### frames -/
structure FrR (X : Cx) (w : Vw) (fr : Fr) (σ : L2.St) (c : Cf) : Prop where
  len : fr.ρ.length = σ.length
  val : ∀ (i : Nat) (d : D), fr.ρ[i]? = some (some d) → ∃ v, σ[i]? = some (some v) ∧ Rep w c.φ c.H d v
  cp : ∀ (i l : Nat), fr.cp.lookup i = some l → l ∈ w.own ∧ ∃ x a, X.N[i]? = some x ∧ X.env.cells.lookup x = some a ∧ X.env.kindOf x = some .cell ∧ X.fn x = true ∧ c.φ[l]? = some a ∧ c.st[l]? = some (.cell (fr.ρ[i]?.join))
  own : ∀ l, l ∈ w.own → ∃ i, fr.cp.lookup i = some l
theorem FrR.mono {X : Cx} {w : Vw} {fr : Fr} {σ : L2.St} {c c' : Cf} (f : FrR X w fr σ c) (m : Mono [] c c') : FrR X w fr σ c' where
  len := f.len
  val := fun i d e => by
    obtain ⟨v, h1, h2⟩ := f.val i d e
    exact ⟨v, h1, h2.mono m⟩
  cp := fun i l e => by
    obtain ⟨h0, x, a, h1, h2, hk, hn, h3, h4⟩ := f.cp i l e
    exact ⟨h0, x, a, h1, h2, hk, hn, m.pre l a h3, m.cel l _ (by simp) h4⟩
  own := f.own
/-- a computation in a frame, as a reading -/
def tM {α β : Type} (X : Cx) (w : Vw) (W : WX) (R : RR α β) (m : Fr → M α) : L2.St → Hp → (β → Hp → Prop) → Prop :=
  fun σ H Q => ∃ fr c, c.H = H ∧ FrR X w fr σ c ∧ SR w c ∧ PostM w R c (m fr) Q (WE W σ)
section
variable {α β γ δ : Type} {X : Cx} {w : Vw} {W : WX} {σ : L2.St} {H : Hp}
/-- a first part, then the rest in a later place -/
theorem tM_bnd {R : RR α β} {R' : RR γ δ} {m : Fr → M γ} {f : Fr → γ → M α} {Q : β → Hp → Prop} (h : tM X w W R (fun fr => bnd (m fr) (f fr)) σ H Q) {P : δ → Hp → Prop}
    (k : ∀ fr d v c, FrR X w fr σ c → SR w c → R' c.φ c.H d v → PostM w R c (f fr d) Q (WE W σ) → P v c.H) : tM X w W R' m σ H P := by
  obtain ⟨fr, c, e, hf, hs, hp⟩ := h
  refine ⟨fr, c, e, hf, hs, Post.imp hp.bn fun v H' q => ?_⟩
  obtain ⟨d', c', e', mo, s', r', hp'⟩ := q
  subst e'
  exact k fr d' v c' (hf.mono mo) s' r' hp'
theorem tM_of {R : RR α β} {m : Fr → M α} {Q : β → Hp → Prop} {fr : Fr} {c : Cf} (hf : FrR X w fr σ c) (hs : SR w c) (h : PostM w R c (m fr) Q (WE W σ)) : tM X w W R m σ c.H Q := ⟨fr, c, rfl, hf, hs, h⟩
end
/-- a reading may be asked less -/
theorem PE.imp {X : Cx} {e : Expr} {t t' : TE} (h : PE X e t) (k : ∀ σ H Q, t' σ H Q → t σ H Q) : PE X e t' := ⟨fun pins s σ H Q I q => h.run pins s σ H Q I (k σ H Q q)⟩
theorem PT.imp {X : Cx} {e : Expr} {t t' : TT} (h : PT X e t) (k : ∀ σ H Q, t' σ H Q → t σ H Q) : PT X e t' := ⟨fun pins s σ H Q I q => h.run pins s σ H Q I (k σ H Q q)⟩
theorem PW.imp {X : Cx} {e : Expr} {t t' : TT} (h : PW X e t) (k : ∀ σ H Q, t' σ H Q → t σ H Q) : PW X e t' := ⟨fun wh pins s σ H Q I q => h.run wh pins s σ H Q I (k σ H Q q)⟩
theorem PA.imp {X : Cx} {es : List Expr} {t t' : TA} (h : PA X es t) (k : ∀ σ H Q, t' σ H Q → t σ H Q) : PA X es t' := ⟨fun pos pins s σ H Q I q => h.run pos pins s σ H Q I (k σ H Q q)⟩
theorem PS.imp {X : Cx} {e : Stmt} {t t' : TS} (h : PS X e t) (k : ∀ D σ H, t' D σ H → t D σ H) : PS X e t' := ⟨fun pins s σ H D I q => h.run pins s σ H D I (k D σ H q)⟩
theorem PSs.imp {X : Cx} {e : List Stmt} {t t' : TS} (h : PSs X e t) (k : ∀ D σ H, t' D σ H → t D σ H) : PSs X e t' := ⟨fun pins s σ H D I q => h.run pins s σ H D I (k D σ H q)⟩
/-- two-place operations: any one of several -/
theorem OpR.or {X : Cx} {f : Value → Value → Sem Value} {r r' : R2} (h : OpR X f r) (h' : OpR X f r') : OpR X f (fun x y H Q => r x y H Q ∨ r' x y H Q) :=
  fun pins s σ H x y v u Q I rx ry q => q.elim (fun q => h pins s σ H x y v u Q I rx ry q) fun q => h' pins s σ H x y v u Q I rx ry q
theorem OpR.imp {X : Cx} {f : Value → Value → Sem Value} {r r' : R2} (h : OpR X f r) (k : ∀ x y H Q, r' x y H Q → r x y H Q) : OpR X f r' :=
  fun pins s σ H x y v u Q I rx ry q => h pins s σ H x y v u Q I rx ry (k x y H Q q)

/-! ### values, read back -/
section
variable {w : Vw} {φ : List Addr} {H : Hp} {v : V}
theorem rep_non : Rep w φ H .non v ↔ v = .non := by unfold Rep; exact Iff.rfl
theorem rep_bl {b : Bool} : Rep w φ H (.bl b) v ↔ v = .bl b := by unfold Rep; exact Iff.rfl
theorem rep_int {i : Int} : Rep w φ H (.int i) v ↔ v = .int i := by unfold Rep; exact Iff.rfl
theorem rep_str {i : Str} : Rep w φ H (.str i) v ↔ v = .str i := by unfold Rep; exact Iff.rfl
theorem rep_tup {ds : List D} : Rep w φ H (.tup ds) v ↔ ∃ a xs, v = .ref a ∧ SqT w.K H a xs ∧ RepL w φ H ds xs := by rw [Rep]
theorem rep_loc {l : Nat} : Rep w φ H (.loc l) v ↔ ∃ a, v = .ref a ∧ φ[l]? = some a := by rw [Rep]
theorem rep_fn {f : Nat} : Rep w φ H (.fn f) v ↔ v = .ref (w.fa f) := by rw [Rep]
end
/-- a sequence of the store, or a tuple, in the heap -/
theorem seq_at {w : Vw} {c : Cf} {d : D} {ds : List D} {v : V} (s : SR w c) (h : (d = .tup ds) ∨ ∃ l, d = .loc l ∧ (c.st[l]? = some (.lst ds) ∨ c.st[l]? = some (.fro ds))) (r : Rep w c.φ c.H d v) :
    ∃ a xs, v = .ref a ∧ (SqL w.K c.H a xs ∨ SqT w.K c.H a xs) ∧ RepL w c.φ c.H ds xs := by
  rcases h with rfl | ⟨l, rfl, h | h⟩
  · obtain ⟨a, xs, e, h1, h2⟩ := rep_tup.mp r
    exact ⟨a, xs, e, .inr h1, h2⟩
  · obtain ⟨a, e, h1⟩ := rep_loc.mp r
    obtain ⟨xs, h2, h3⟩ := s.ob l _ a h h1
    exact ⟨a, xs, e, .inl (SqL.of h2), h3⟩
  · obtain ⟨a, e, h1⟩ := rep_loc.mp r
    obtain ⟨o, xs, h2, h3⟩ := s.ob l _ a h h1
    exact ⟨a, xs, e, .inl (.inl (.inr ⟨o, h2⟩)), h3⟩
/-- a new list -/
theorem PostM.allocL {w : Vw} {c : Cf} {ds : List D} {xs : List V} {Q : VK} {E : XK} (h : PostM w (RD w) c (alloc (.lst ds)) Q E) (s : SR w c) (r : RepL w c.φ c.H ds xs) : ∀ p, c.H p = none → Q (.ref p) (upd c.H p (.lst xs)) := fun p hp => by
  have m : Mono [] c ⟨c.φ ++ [p], upd c.H p (.lst xs), c.st ++ [.lst ds]⟩ := Mono.alloc hp s.len
  refine h (c.φ ++ [p]) (upd c.H p (.lst xs)) (.ref p) m (s.alloc hp ⟨xs, upd_same, r.mono m⟩) (rep_loc.mpr ⟨p, rfl, ?_⟩)
  rw [← s.len]
  simp
/-- a new tuple -/
theorem PostM.newT {w : Vw} {c : Cf} {ds : List D} {xs : List V} {Q : VK} {E : XK} (h : PostM w (RD w) c (ret (.tup ds)) Q E) (s : SR w c) (r : RepL w c.φ c.H ds xs) : ∀ p, c.H p = none → Q (.ref p) (upd c.H p (.tup xs)) := fun p hp => by
  have m : Mono [] c ⟨c.φ, upd c.H p (.tup xs), c.st⟩ := Mono.fresh hp
  exact h c.φ (upd c.H p (.tup xs)) (.ref p) m (s.fresh hp) (rep_tup.mpr ⟨p, xs, rfl, SqT.of upd_same, r.mono m⟩)
/-- a written list -/
theorem write_list {w : Vw} {c : Cf} {l : Nat} {a : Addr} {ds ds' : List D} {xs xs' : List V} (s : SR w c) (hl : c.st[l]? = some (.lst ds)) (ha : c.φ[l]? = some a) (hx : c.H a = some (.lst xs)) (r : RepL w c.φ c.H ds' xs') :
    Mono [] c ⟨c.φ, upd c.H a (.lst xs'), c.st.set l (.lst ds')⟩ ∧ SR w ⟨c.φ, upd c.H a (.lst xs'), c.st.set l (.lst ds')⟩ := by
  have m : Mono [] c ⟨c.φ, upd c.H a (.lst xs'), c.st.set l (.lst ds')⟩ := Mono.write ha hl rfl trivial hx rfl rfl
  exact ⟨m, s.write ha hl rfl rfl trivial hx rfl rfl ⟨xs', upd_same, r.mono m⟩⟩
end MI

set_option Elab.async false
set_option linter.all false
set_option maxRecDepth 100000
set_option maxHeartbeats 4000000
/-! MINI, part 5: the operators by values. -/
namespace MI
open PySem PySem.Spec PyProof.Rows L2

def bopOf : Bop → Operator
  | .add => .Add
  | .sub => .Sub
  | .mul => .Mult
  | .fdiv => .FloorDiv
  | .mod => .Mod
  | .pow => .Pow
def copOf : Cop → CmpOp
  | .eq => .Eq
  | .ne => .NotEq
  | .lt => .Lt
  | .le => .LtE
  | .gt => .Gt
  | .ge => .GtE
  | .is => .Is
  | .isnot => .IsNot
  | .isin => .In
  | .notin => .NotIn
/-- x, y stand for d, e in a place from which the computation m d e comes to Q -/
def r2 (w : Vw) (m : D → D → M D) : R2 := fun x y H Q => ∃ d e c E, c.H = H ∧ SR w c ∧ Rep w c.φ c.H d x ∧ Rep w c.φ c.H e y ∧ PostM w (RD w) c (m d e) Q E

section
variable {X : Cx} {w : Vw}
theorem flat_rep (s : List Nat) : ∀ n : Nat, (List.replicate n s.toArray).foldl (· ++ ·) #[] = (List.replicate n s).flatten.toArray := fun n => by
  have key : ∀ (n : Nat) (a : Array Nat), (List.replicate n s.toArray).foldl (· ++ ·) a = a ++ (List.replicate n s).flatten.toArray := by
    intro n
    induction n with
    | zero => intro a; simp
    | succ n ih =>
      intro a
      rw [List.replicate_succ, List.foldl_cons, ih, List.replicate_succ, List.flatten_cons]
      simp
  rw [key]
  simp
def rMulS : R2 := fun x y H Q => ∃ (s : Str) (k : Int), x = .str s ∧ y = .int k ∧ 1 ≤ k ∧ s.length * k.toNat ≤ sizeLine ∧ k < 2 ^ 32 ∧ Q (.str ⟨(List.replicate k.toNat s.cps.toList).flatten.toArray⟩) H
theorem op_mulS : OpR X (binaryOp .Mult) rMulS := by
  intro pins s σ H x y v u Q I rx ry h
  obtain ⟨z, k, rfl, rfl, h1, h2, h3, q⟩ := h
  obtain ⟨t, rfl⟩ := rx
  obtain ⟨t', rfl⟩ := ry
  have h4 : ¬ k < 1 := by omega
  have hz : (List.replicate k.toNat z.cps).foldl (· ++ ·) #[] = (List.replicate k.toNat z.cps.toList).flatten.toArray := flat_rep z.cps.toList k.toNat
  refine PySem.P.mul_str ?_ (fun _ h5 => ?_) (fun _ _ => ?_) ?_
  · rw [decide_eq_false (by omega), decide_eq_false (by omega)]; rfl
  · intro h6
    have hk : (1 : Int) ≤ k := h1
    have h7 : (2 ^ 63 - 1) / k ≥ 2 ^ 30 := by
      have : (2 ^ 30 : Int) ≤ (2 ^ 63 - 1) / k := by
        rw [Int.le_ediv_iff_mul_le (by omega)]
        omega
      exact this
    have h8 : z.length ≤ sizeLine := by
      have : z.length * 1 ≤ z.length * k.toNat := Nat.mul_le_mul_left _ (by omega)
      omega
    have h9 : sizeLine = 2 ^ 24 := rfl
    omega
  · unfold Builtin.Str.tooLong
    exact decide_eq_false (by omega)
  · rw [if_neg h4]
    have hlen : (⟨(List.replicate k.toNat z.cps.toList).flatten.toArray⟩ : Str).length ≤ sizeLine := by
      show (List.replicate k.toNat z.cps.toList).flatten.toArray.size ≤ sizeLine
      rw [List.size_toArray, List.length_flatten]
      simp
      rw [Nat.mul_comm]
      exact h2
    split
    · rename_i h5
      refine ⟨.str _, H, I, ⟨_, rfl⟩, ?_⟩
      have e : (⟨(List.replicate k.toNat z.cps.toList).flatten.toArray⟩ : Str) = z := by
        rcases (Bool.or_eq_true _ _).mp h5 with h6 | h6
        · have : k = 1 := by simpa using h6
          subst this
          obtain ⟨a⟩ := z
          simp
        · have h7 : z.cps.size = 0 := by simpa [Str.length] using h6
          obtain ⟨a⟩ := z
          have : a = #[] := Array.eq_empty_of_size_eq_zero h7
          subst this
          simp
      rw [e] at q
      exact q
    · rw [hz]
      exact ⟨hlen, ⟨.str _, H, I.tok _, ⟨_, rfl⟩, q⟩⟩
/-- is a truth, of anything -/
def rIsAny : R2 := fun x y H Q => ∃ b : Bool, y = .bl b ∧ (x = .non ∨ (∃ i, x = .int i) ∨ (∃ z, x = .str z) ∨ (∃ a, x = .ref a)) ∧ Q (.bl false) H
theorem op_isAny : OpR X (compareOp .Is) rIsAny := by
  intro pins s σ H x y v u Q I rx ry h
  obtain ⟨b, rfl, hx, q⟩ := h
  cases (show u = Value.bool b from ry)
  rcases hx with rfl | ⟨i, rfl⟩ | ⟨z, rfl⟩ | ⟨a, rfl⟩
  · cases (show v = Value.none from rx)
    exact wpAny_is_other rfl (fun z => by cases z) ⟨.bl false, H, I, rfl, q⟩
  · obtain ⟨t, rfl⟩ := rx
    exact wpAny_is_other rfl (fun z => by cases z) ⟨.bl false, H, I, rfl, q⟩
  · obtain ⟨t, rfl⟩ := rx
    exact wpAny_is_other rfl (fun z => by cases z) ⟨.bl false, H, I, rfl, q⟩
  · cases (show v = Value.ref a from rx)
    exact wpAny_is_other rfl (fun z => by cases z) ⟨.bl false, H, I, rfl, q⟩

theorem or_add (hK : w.K = X.K) : OpR X (binaryOp .Add) (r2 w (binop .add)) := by
  refine OpR.imp ((op_add (X := X)).or ((op_add_str (X := X)).or ((op_catA (X := X)).or (op_cat (X := X))))) ?_
  rintro x y H Q ⟨d, e, c, E, rfl, s, rx, ry, h⟩
  cases d with
  | int i => cases e with
    | int j =>
      rw [rep_int] at rx ry
      exact .inl ⟨i, j, rx, ry, PostM.rt (R := RD w) h s (rep_int.mpr rfl)⟩
    | _ => exact h.elim
  | str i => cases e with
    | str j =>
      rw [rep_str] at rx ry
      obtain ⟨g, h⟩ := PostM.grd h
      exact .inr (.inl ⟨i, j, rx, ry, of_decide_eq_true g, PostM.rt (R := RD w) h s (rep_str.mpr rfl)⟩)
    | _ => exact h.elim
  | tup xs => cases e with
    | tup ys =>
      obtain ⟨g, h⟩ := PostM.grd h
      have g := of_decide_eq_true g
      obtain ⟨a, us, rfl, h1, h2⟩ := rep_tup.mp rx
      obtain ⟨b, vs, rfl, h3, h4⟩ := rep_tup.mp ry
      rw [hK] at h1 h3
      refine .inr (.inr (.inl ⟨a, b, us, vs, rfl, rfl, h1, h3, by rw [← h2.length, ← h4.length]; exact g, fun e => ?_, fun e1 e2 => ?_, fun _ _ => PostM.newT h s (h2.append h4)⟩))
      · subst e
        have : xs = [] := by
          have := h2.length
          simpa using this
        subst this
        exact PostM.rt (R := RD w) h s ry
      · subst e2
        have : ys = [] := by
          have := h4.length
          simpa using this
        subst this
        rw [List.append_nil] at h
        exact PostM.rt (R := RD w) h s rx
    | _ => exact h.elim
  | loc l => cases e with
    | loc k =>
      obtain ⟨a, rfl, h1⟩ := rep_loc.mp rx
      obtain ⟨b, rfl, h2⟩ := rep_loc.mp ry
      unfold PostM binop at h
      cases e1 : c.st[l]? with
      | none => simp only [e1] at h; exact h.elim
      | some o1 => cases o1 with
        | lst xs => cases e2 : c.st[k]? with
          | none => simp only [e1, e2] at h; exact h.elim
          | some o2 => cases o2 with
            | lst ys =>
              simp only [e1, e2] at h
              obtain ⟨g, h⟩ := PostM.grd (c := c) h
              have g := of_decide_eq_true g
              obtain ⟨us, h3, h4⟩ := s.ob l _ a e1 h1
              obtain ⟨vs, h5, h6⟩ := s.ob k _ b e2 h2
              exact .inr (.inr (.inr ⟨a, b, us, vs, rfl, rfl, h3, h5, by rw [← h4.length, ← h6.length]; exact g, PostM.allocL h s (h4.append h6)⟩))
            | _ => simp only [e1, e2] at h; exact h.elim
        | _ => simp only [e1] at h; exact h.elim
    | _ => exact h.elim
  | _ => exact h.elim
theorem or_sub : OpR X (binaryOp .Sub) (r2 w (binop .sub)) := by
  refine OpR.imp (op_sub (X := X)) ?_
  rintro x y H Q ⟨d, e, c, E, rfl, s, rx, ry, h⟩
  cases d with
  | int i => cases e with
    | int j =>
      rw [rep_int] at rx ry
      exact ⟨i, j, rx, ry, PostM.rt (R := RD w) h s (rep_int.mpr rfl)⟩
    | _ => exact h.elim
  | _ => exact h.elim
theorem or_fdiv : OpR X (binaryOp .FloorDiv) (r2 w (binop .fdiv)) := by
  refine OpR.imp (op_fdivW (X := X)) ?_
  rintro x y H Q ⟨d, e, c, E, rfl, s, rx, ry, h⟩
  cases d with
  | int i => cases e with
    | int j =>
      rw [rep_int] at rx ry
      obtain ⟨g, h⟩ := PostM.grd h
      simp only [Bool.and_eq_true, decide_eq_true_eq] at g
      exact ⟨i, j, rx, ry, wide_div (b := 64) g.1 (by omega) (by decide) (by decide), PostM.rt (R := RD w) h s (rep_int.mpr rfl)⟩
    | _ => exact h.elim
  | _ => exact h.elim
theorem or_mod : OpR X (binaryOp .Mod) (r2 w (binop .mod)) := by
  refine OpR.imp (op_mod (X := X)) ?_
  rintro x y H Q ⟨d, e, c, E, rfl, s, rx, ry, h⟩
  cases d with
  | int i => cases e with
    | int j =>
      rw [rep_int] at rx ry
      obtain ⟨g, h⟩ := PostM.grd h
      exact ⟨i, j, rx, ry, of_decide_eq_true g, PostM.rt (R := RD w) h s (rep_int.mpr rfl)⟩
    | _ => exact h.elim
  | _ => exact h.elim
theorem or_pow : OpR X (binaryOp .Pow) (r2 w (binop .pow)) := by
  refine OpR.imp (op_pow (X := X)) ?_
  rintro x y H Q ⟨d, e, c, E, rfl, s, rx, ry, h⟩
  cases d with
  | int i => cases e with
    | int j =>
      rw [rep_int] at rx ry
      obtain ⟨g, h⟩ := PostM.grd h
      simp only [Bool.and_eq_true, decide_eq_true_eq] at g
      exact ⟨i, j, rx, ry, ⟨g.1.1, g.1.2, g.2⟩, PostM.rt (R := RD w) h s (rep_int.mpr rfl)⟩
    | _ => exact h.elim
  | _ => exact h.elim
theorem repl_rep {φ : List Addr} {H : Hp} {ds : List D} {xs : List V} (h : RepL w φ H ds xs) : ∀ n, RepL w φ H (List.replicate n ds).flatten (List.replicate n xs).flatten
  | 0 => RepL.nil
  | n + 1 => by
    rw [List.replicate_succ, List.flatten_cons, List.replicate_succ, List.flatten_cons]
    exact h.append (repl_rep h n)
theorem or_mul : OpR X (binaryOp .Mult) (r2 w (binop .mul)) := by
  refine OpR.imp ((op_mul (X := X)).or ((op_rep (X := X)).or (op_mulS (X := X)))) ?_
  rintro x y H Q ⟨d, e, c, E, rfl, s, rx, ry, h⟩
  cases d with
  | int i => cases e with
    | int j =>
      rw [rep_int] at rx ry
      obtain ⟨g, h⟩ := PostM.grd h
      unfold smallMul at g
      simp only [Bool.and_eq_true, Bool.or_eq_true, decide_eq_true_eq] at g
      exact .inl ⟨i, j, rx, ry, g, PostM.rt (R := RD w) h s (rep_int.mpr rfl)⟩
    | _ => exact h.elim
  | str i => cases e with
    | int j =>
      rw [rep_int] at ry
      rw [rep_str] at rx
      obtain ⟨g, h⟩ := PostM.grd h
      simp only [Bool.and_eq_true, decide_eq_true_eq] at g
      exact .inr (.inr ⟨i, j, rx, ry, g.1.1, g.1.2, g.2, PostM.rt (R := RD w) h s (rep_str.mpr rfl)⟩)
    | _ => exact h.elim
  | loc l => cases e with
    | int j =>
      obtain ⟨a, rfl, h1⟩ := rep_loc.mp rx
      rw [rep_int] at ry
      unfold PostM binop at h
      cases e1 : c.st[l]? with
      | none => simp only [e1] at h; exact h.elim
      | some o1 => cases o1 with
        | lst xs =>
          simp only [e1] at h
          obtain ⟨g, h⟩ := PostM.grd (c := c) h
          simp only [Bool.and_eq_true, decide_eq_true_eq] at g
          obtain ⟨us, h3, h4⟩ := s.ob l _ a e1 h1
          exact .inr (.inl ⟨a, j, us, rfl, ry, h3, g.1.1, g.1.2, by rw [← h4.length]; exact g.2, PostM.allocL h s (repl_rep h4 _)⟩)
        | _ => simp only [e1] at h; exact h.elim
    | _ => exact h.elim
  | _ => exact h.elim
theorem or_bin (hK : w.K = X.K) : ∀ op : Bop, OpR X (binaryOp (bopOf op)) (r2 w (binop op))
  | .add => or_add hK
  | .sub => or_sub
  | .mul => or_mul
  | .fdiv => or_fdiv
  | .mod => or_mod
  | .pow => or_pow
end
end MI

set_option Elab.async false
set_option linter.all false
set_option maxRecDepth 100000
set_option maxHeartbeats 4000000
/-! MINI, part 6: the comparisons by values. -/
namespace MI
open PySem PySem.Spec PyProof.Rows L2
section
variable {X : Cx} {w : Vw}
theorem allO_dp {w : Vw} {φ : List Addr} {H : Hp} {f : D → Option PyData} : ∀ {ds : List D} {ps : List PyData} {xs : List V}, allO f ds = some ps → RepL w φ H ds xs →
    (∀ d p v, f d = some p → Rep w φ H d v → Dp w.K H v p) → DpAll w.K H xs ps
  | [], ps, xs, h, r, _ => by
    cases h
    rw [r.nil_inv]
    exact .nil
  | d :: ds, ps, xs, h, r, k => by
    obtain ⟨x, rs, rfl, h1, h2⟩ := r.cons_inv
    unfold allO at h
    cases e1 : f d with
    | none => simp only [e1] at h; cases h
    | some p => cases e2 : allO f ds with
      | none => simp only [e1, e2] at h; cases h
      | some qs =>
        simp only [e1, e2] at h
        cases h
        exact .cons (k d p x e1 h1) (allO_dp e2 h2 k)
theorem data_dp {w : Vw} {c : Cf} (s : SR w c) : ∀ (n : Nat) (d : D) (p : PyData) (v : V), dataOf c.st n d = some p → Rep w c.φ c.H d v → Dp w.K c.H v p
  | 0, _, _, _, h, _ => by cases h
  | n + 1, d, p, v, h, r => by
    unfold dataOf at h
    cases d with
    | non => cases h; rw [rep_non.mp r]; exact .non
    | bl b => cases h; rw [rep_bl.mp r]; exact .bl b
    | int b => cases h; rw [rep_int.mp r]; exact .int b
    | str b => cases h; rw [rep_str.mp r]; exact .str b
    | tup ds =>
      cases e : allO (dataOf c.st n) ds with
      | none => simp only [e] at h; cases h
      | some ps =>
        simp only [e] at h
        cases h
        obtain ⟨a, xs, rfl, h1, h2⟩ := rep_tup.mp r
        exact .tup h1 (allO_dp e h2 fun d p v => data_dp s n d p v)
    | loc l =>
      obtain ⟨a, rfl, h1⟩ := rep_loc.mp r
      cases e1 : c.st[l]? with
      | none => simp only [e1] at h; cases h
      | some o => cases o with
        | lst ds =>
          simp only [e1] at h
          cases e : allO (dataOf c.st n) ds with
          | none => simp only [e] at h; cases h
          | some ps =>
            simp only [e] at h
            cases h
            obtain ⟨xs, h2, h3⟩ := s.ob l _ a e1 h1
            exact .lst (SqL.of h2) (allO_dp e h3 fun d p v => data_dp s n d p v)
        | fro ds =>
          simp only [e1] at h
          cases e : allO (dataOf c.st n) ds with
          | none => simp only [e] at h; cases h
          | some ps =>
            simp only [e] at h
            cases h
            obtain ⟨o, xs, h2, h3⟩ := s.ob l _ a e1 h1
            exact .lst (.inl (.inr ⟨o, h2⟩)) (allO_dp e h3 fun d p v => data_dp s n d p v)
        | _ => simp only [e1] at h; cases h
    | _ => cases h
theorem scal_eq {φ : List Addr} {H : Hp} {d e : D} {x y : V} {b : Bool} (h : eqScal d e = some b) (rx : Rep w φ H d x) (ry : Rep w φ H e y) : scal x y = true ∧ decide (x = y) = b := by
  cases d <;> cases e <;> first | (cases h; done) | skip
  all_goals (simp only [rep_non, rep_bl, rep_int, rep_str] at rx ry; subst rx ry; cases h; first | exact ⟨rfl, rfl⟩ | exact ⟨rfl, by simp⟩)
def rEqB (w : Vw) : R2 := fun x y H Q => (scal x y = true ∧ Q (.bl (decide (x = y))) H) ∨ rEqD w.K x y H Q
theorem eq_post {c : Cf} {d e : D} {x y : V} {g : Bool → D} {Q : VK} {E : XK} (s : SR w c) (rx : Rep w c.φ c.H d x) (ry : Rep w c.φ c.H e y) (h : PostM w (RD w) c (bnd (eqD d e) fun r => ret (g r)) Q E) :
    (∃ b, scal x y = true ∧ decide (x = y) = b ∧ PostM w (RD w) c (ret (g b)) Q E) ∨ ∃ p q, Dp w.K c.H x p ∧ Dp w.K c.H y q ∧ SeqAt.shaped p = true ∧ SeqAt.shaped q = true ∧ PostM w (RD w) c (ret (g (PyData.eqv p q))) Q E := by
  unfold PostM bnd eqD at h
  cases e1 : eqScal d e with
  | some b =>
    simp only [e1] at h
    obtain ⟨h1, h2⟩ := scal_eq e1 rx ry
    exact .inl ⟨b, h1, h2, h⟩
  | none =>
    simp only [e1] at h
    cases e2 : dataOf c.st 9 d with
    | none => simp only [e2] at h; exact h.elim
    | some p => cases e3 : dataOf c.st 9 e with
      | none => simp only [e2, e3] at h; exact h.elim
      | some q =>
        simp only [e2, e3] at h
        by_cases hs : (SeqAt.shaped p && SeqAt.shaped q) = true
        · rw [if_pos hs] at h
          have hs' := hs
          rw [Bool.and_eq_true] at hs'
          exact .inr ⟨p, q, data_dp s 9 d p x e2 rx, data_dp s 9 e q y e3 ry, hs'.1, hs'.2, h⟩
        · rw [if_neg hs] at h
          exact h.elim
theorem or_eq (hK : w.K = X.K) (hu : X.A.units + 64 < cLine) : OpR X (compareOp .Eq) (r2 w (cmpop .eq)) := by
  refine OpR.imp ((op_eq (X := X)).or (op_eqD (X := X) hu)) ?_
  rintro x y H Q ⟨d, e, c, E, rfl, s, rx, ry, h⟩
  rcases eq_post s rx ry h with ⟨b, h1, h2, h3⟩ | ⟨p, q, h1, h2, h3, h4, h5⟩
  · exact .inl ⟨h1, PostM.rt (R := RD w) h3 s (rep_bl.mpr (by rw [h2]))⟩
  · rw [hK] at h1 h2
    exact .inr ⟨p, q, h1, h2, h3, h4, PostM.rt (R := RD w) h5 s (rep_bl.mpr rfl)⟩
theorem or_ne (hK : w.K = X.K) (hu : X.A.units + 64 < cLine) : OpR X (compareOp .NotEq) (r2 w (cmpop .ne)) := by
  refine OpR.imp ((op_ne (X := X)).or (op_neD (X := X) hu)) ?_
  rintro x y H Q ⟨d, e, c, E, rfl, s, rx, ry, h⟩
  rcases eq_post s rx ry h with ⟨b, h1, h2, h3⟩ | ⟨p, q, h1, h2, h3, h4, h5⟩
  · exact .inl ⟨h1, PostM.rt (R := RD w) h3 s (rep_bl.mpr (by rw [h2]))⟩
  · rw [hK] at h1 h2
    exact .inr ⟨p, q, h1, h2, h3, h4, PostM.rt (R := RD w) h5 s (rep_bl.mpr rfl)⟩
theorem or_lt : OpR X (compareOp .Lt) (r2 w (cmpop .lt)) := by
  refine OpR.imp (op_lt (X := X)) ?_
  rintro x y H Q ⟨d, e, c, E, rfl, s, rx, ry, h⟩
  cases d with
  | int i => cases e with
    | int j =>
      rw [rep_int] at rx ry
      exact ⟨i, j, rx, ry, PostM.rt (R := RD w) h s (rep_bl.mpr rfl)⟩
    | _ => exact h.elim
  | _ => exact h.elim
theorem or_le : OpR X (compareOp .LtE) (r2 w (cmpop .le)) := by
  refine OpR.imp (op_le (X := X)) ?_
  rintro x y H Q ⟨d, e, c, E, rfl, s, rx, ry, h⟩
  cases d with
  | int i => cases e with
    | int j =>
      rw [rep_int] at rx ry
      exact ⟨i, j, rx, ry, PostM.rt (R := RD w) h s (rep_bl.mpr rfl)⟩
    | _ => exact h.elim
  | _ => exact h.elim
theorem or_gt : OpR X (compareOp .Gt) (r2 w (cmpop .gt)) := by
  refine OpR.imp (op_gt (X := X)) ?_
  rintro x y H Q ⟨d, e, c, E, rfl, s, rx, ry, h⟩
  cases d with
  | int i => cases e with
    | int j =>
      rw [rep_int] at rx ry
      exact ⟨i, j, rx, ry, PostM.rt (R := RD w) h s (rep_bl.mpr rfl)⟩
    | _ => exact h.elim
  | _ => exact h.elim
theorem or_ge : OpR X (compareOp .GtE) (r2 w (cmpop .ge)) := by
  refine OpR.imp (op_ge (X := X)) ?_
  rintro x y H Q ⟨d, e, c, E, rfl, s, rx, ry, h⟩
  cases d with
  | int i => cases e with
    | int j =>
      rw [rep_int] at rx ry
      exact ⟨i, j, rx, ry, PostM.rt (R := RD w) h s (rep_bl.mpr rfl)⟩
    | _ => exact h.elim
  | _ => exact h.elim
theorem isNon_rep {φ : List Addr} {H : Hp} {d : D} {x : V} (r : Rep w φ H d x) : decide (x = .non) = isNonB d := by
  cases d with
  | non => rw [rep_non.mp r]; rfl
  | bl b => rw [rep_bl.mp r]; rfl
  | int b => rw [rep_int.mp r]; rfl
  | str b => rw [rep_str.mp r]; rfl
  | tup ds =>
    obtain ⟨a, xs, rfl, _⟩ := rep_tup.mp r
    rfl
  | loc l =>
    obtain ⟨a, rfl, _⟩ := rep_loc.mp r
    rfl
  | fn f => rw [rep_fn.mp r]; rfl
  | clo k ls =>
    rw [Rep] at r
    obtain ⟨a, o, cs, _, _, rfl, _⟩ := r
    rfl
theorem or_is : OpR X (compareOp .Is) (r2 w (cmpop .is)) := by
  refine OpR.imp ((op_isN (X := X)).or ((op_isBl (X := X)).or (op_isAny (X := X)))) ?_
  rintro x y H Q ⟨d, e, c, E, rfl, s, rx, ry, h⟩
  cases e with
  | non =>
    refine .inl ⟨rep_non.mp ry, ?_⟩
    rw [isNon_rep rx]
    exact PostM.rt (R := RD w) h s (rep_bl.mpr rfl)
  | bl b =>
    have ry := rep_bl.mp ry
    cases d with
    | bl a =>
      refine .inr (.inl ⟨a, b, rep_bl.mp rx, ry, ?_⟩)
      have e : (a == b) = decide (a = b) := by cases a <;> cases b <;> rfl
      rw [← e]
      exact PostM.rt (R := RD w) h s (rep_bl.mpr rfl)
    | non => exact .inr (.inr ⟨b, ry, .inl (rep_non.mp rx), PostM.rt (R := RD w) h s (rep_bl.mpr rfl)⟩)
    | int i => exact .inr (.inr ⟨b, ry, .inr (.inl ⟨i, rep_int.mp rx⟩), PostM.rt (R := RD w) h s (rep_bl.mpr rfl)⟩)
    | str i => exact .inr (.inr ⟨b, ry, .inr (.inr (.inl ⟨i, rep_str.mp rx⟩)), PostM.rt (R := RD w) h s (rep_bl.mpr rfl)⟩)
    | tup ds =>
      obtain ⟨a, xs, rfl, _⟩ := rep_tup.mp rx
      exact .inr (.inr ⟨b, ry, .inr (.inr (.inr ⟨a, rfl⟩)), PostM.rt (R := RD w) h s (rep_bl.mpr rfl)⟩)
    | loc l =>
      obtain ⟨a, rfl, _⟩ := rep_loc.mp rx
      exact .inr (.inr ⟨b, ry, .inr (.inr (.inr ⟨a, rfl⟩)), PostM.rt (R := RD w) h s (rep_bl.mpr rfl)⟩)
    | _ => exact h.elim
  | _ => exact h.elim
theorem or_isnot : OpR X (compareOp .IsNot) (r2 w (cmpop .isnot)) := by
  refine OpR.imp (op_notN (X := X)) ?_
  rintro x y H Q ⟨d, e, c, E, rfl, s, rx, ry, h⟩
  cases e with
  | non =>
    refine ⟨rep_non.mp ry, ?_⟩
    rw [isNon_rep rx]
    exact PostM.rt (R := RD w) h s (rep_bl.mpr rfl)
  | _ => exact h.elim
theorem flat_of {φ : List Addr} {H : Hp} {d : D} {x : V} (r : Rep w φ H d x) (h : isScal d = true) : flatV x = true := by
  cases d with
  | non => rw [rep_non.mp r]; rfl
  | bl b => rw [rep_bl.mp r]; rfl
  | int b => rw [rep_int.mp r]; rfl
  | str b => rw [rep_str.mp r]; rfl
  | _ => cases h
theorem flat_eq {φ : List Addr} {H : Hp} {d e : D} {x y : V} (r : Rep w φ H d x) (q : Rep w φ H e y) (h : isScal d = true) (k : isScal e = true) : eqV x y = eqFlat d e := by
  cases d <;> first | (cases h; done) | skip
  all_goals (cases e <;> first | (cases k; done) | skip)
  all_goals (simp only [rep_non, rep_bl, rep_int, rep_str] at r q; subst r q; rfl)
theorem flat_all {φ : List Addr} {H : Hp} : ∀ {ds : List D} {xs : List V}, RepL w φ H ds xs → ds.all isScal = true → xs.all flatV = true
  | [], xs, h, _ => by rw [h.nil_inv]; rfl
  | d :: ds, xs, h, k => by
    obtain ⟨x, r, rfl, h1, h2⟩ := h.cons_inv
    rw [List.all_cons, Bool.and_eq_true] at k
    rw [List.all_cons, flat_of h1 k.1, flat_all h2 k.2]
    rfl
theorem flat_any {φ : List Addr} {H : Hp} {e : D} {y : V} (re : Rep w φ H e y) (he : isScal e = true) : ∀ {ds : List D} {xs : List V}, RepL w φ H ds xs → ds.all isScal = true → inV y xs = ds.any fun z => eqFlat z e
  | [], xs, h, _ => by rw [h.nil_inv]; rfl
  | d :: ds, xs, h, k => by
    obtain ⟨x, r, rfl, h1, h2⟩ := h.cons_inv
    rw [List.all_cons, Bool.and_eq_true] at k
    have ih := flat_any re he h2 k.2
    unfold inV at ih ⊢
    rw [List.any_cons, List.any_cons, ih, flat_eq h1 re k.1 he]
theorem sign_of {x : Str} (h : x.length = 1) : x = ⟨#[x.cps.getD 0 0]⟩ := by
  obtain ⟨a⟩ := x
  have h : a.size = 1 := h
  congr 1
  apply Array.ext
  · simp [h]
  · intro i h1 h2
    have : i = 0 := by omega
    subst this
    simp [Array.getD, h]
theorem or_in (hK : w.K = X.K) : OpR X (compareOp .In) (r2 w (cmpop .isin)) := by
  refine OpR.imp ((op_in_sign (X := X)).or (op_in_seq (X := X))) ?_
  rintro x y H Q ⟨d, e, c, E, rfl, s, rx, ry, h⟩
  have gen : PostM w (RD w) c (bnd (seqOf e) fun ds => bnd (guard (isScal d && ds.all isScal)) fun _ => ret (.bl (ds.any fun y => eqFlat y d))) Q E → rIn X.K false x y c.H Q := fun h => by
    obtain ⟨ds, hd, h⟩ := PostM.sq h
    obtain ⟨g, h⟩ := PostM.grd h
    rw [Bool.and_eq_true] at g
    obtain ⟨a, xs, rfl, h1, h2⟩ := seq_at s hd ry
    rw [hK] at h1
    refine ⟨a, xs, rfl, h1, flat_of rx g.1, flat_all h2 g.2, ?_⟩
    rw [if_neg Bool.false_ne_true, flat_any rx g.1 h2 g.2]
    exact PostM.rt (R := RD w) h s (rep_bl.mpr rfl)
  by_cases hs : ∃ i j, d = .str i ∧ e = .str j
  · obtain ⟨i, j, rfl, rfl⟩ := hs
    obtain ⟨g, h⟩ := PostM.grd h
    have g := of_decide_eq_true g
    exact .inl ⟨_, j, by rw [rep_str.mp rx, ← sign_of g], rep_str.mp ry, PostM.rt (R := RD w) h s (rep_bl.mpr rfl)⟩
  · refine .inr (gen ?_)
    cases d <;> cases e <;> first | exact h | exact absurd ⟨_, _, rfl, rfl⟩ hs
theorem or_notin (hK : w.K = X.K) : OpR X (compareOp .NotIn) (r2 w (cmpop .notin)) := by
  refine OpR.imp ((op_notIn_sign (X := X)).or (op_notIn_seq (X := X))) ?_
  rintro x y H Q ⟨d, e, c, E, rfl, s, rx, ry, h⟩
  have gen : PostM w (RD w) c (bnd (seqOf e) fun ds => bnd (guard (isScal d && ds.all isScal)) fun _ => ret (.bl (!(ds.any fun y => eqFlat y d)))) Q E → rIn X.K true x y c.H Q := fun h => by
    obtain ⟨ds, hd, h⟩ := PostM.sq h
    obtain ⟨g, h⟩ := PostM.grd h
    rw [Bool.and_eq_true] at g
    obtain ⟨a, xs, rfl, h1, h2⟩ := seq_at s hd ry
    rw [hK] at h1
    refine ⟨a, xs, rfl, h1, flat_of rx g.1, flat_all h2 g.2, ?_⟩
    rw [if_pos rfl, flat_any rx g.1 h2 g.2]
    exact PostM.rt (R := RD w) h s (rep_bl.mpr rfl)
  by_cases hs : ∃ i j, d = .str i ∧ e = .str j
  · obtain ⟨i, j, rfl, rfl⟩ := hs
    obtain ⟨g, h⟩ := PostM.grd h
    have g := of_decide_eq_true g
    exact .inl ⟨_, j, by rw [rep_str.mp rx, ← sign_of g], rep_str.mp ry, PostM.rt (R := RD w) h s (rep_bl.mpr rfl)⟩
  · refine .inr (gen ?_)
    cases d <;> cases e <;> first | exact h | exact absurd ⟨_, _, rfl, rfl⟩ hs
theorem or_cmp (hK : w.K = X.K) (hu : X.A.units + 64 < cLine) : ∀ op : Cop, OpR X (compareOp (copOf op)) (r2 w (cmpop op))
  | .eq => or_eq hK hu
  | .ne => or_ne hK hu
  | .lt => or_lt
  | .le => or_le
  | .gt => or_gt
  | .ge => or_ge
  | .is => or_is
  | .isnot => or_isnot
  | .isin => or_in hK
  | .notin => or_notin hK
end
end MI

set_option Elab.async false
set_option linter.all false
set_option maxRecDepth 100000
set_option maxHeartbeats 4000000
/-! MINI, part 7: built-in calls, isinstance, subscripts, slices, attributes, methods of built-in types: by values. -/
namespace MI
open PySem PySem.Spec PyProof.Rows L2
section
variable {X : Cx} {w : Vw}

theorem CallR.or {f : Value} {r r' : List V → Hp → VK → Prop} (h : CallR X f r) (h' : CallR X f r') : CallR X f (fun xs H Q => r xs H Q ∨ r' xs H Q) :=
  fun pins s σ H xs us Q I rs q => q.elim (fun q => h pins s σ H xs us Q I rs q) fun q => h' pins s σ H xs us Q I rs q
theorem CallR.imp {f : Value} {r r' : List V → Hp → VK → Prop} (h : CallR X f r) (k : ∀ xs H Q, r' xs H Q → r xs H Q) : CallR X f r' :=
  fun pins s σ H xs us Q I rs q => h pins s σ H xs us Q I rs (k xs H Q q)
/-- arguments that stand for ds, in a place from which m ds comes to Q -/
def rBi (w : Vw) (m : List D → M D) : List V → Hp → VK → Prop := fun vs H Q => ∃ ds c E, c.H = H ∧ SR w c ∧ RepL w c.φ c.H ds vs ∧ PostM w (RD w) c (m ds) Q E

theorem cr_len (hK : w.K = X.K) : CallR X (.builtin "len") (rBi w (biop .len)) := by
  refine CallR.imp (call_len (X := X)) ?_
  rintro vs H Q ⟨ds, c, E, rfl, s, r, h⟩
  cases ds with
  | nil => exact h.elim
  | cons d ds => cases ds with
    | cons e ds => cases d <;> exact h.elim
    | nil =>
      obtain ⟨x, r0, rfl, h1, h2⟩ := r.cons_inv
      rw [h2.nil_inv]
      have gen : PostM w (RD w) c (bnd (seqOf d) fun ds => ret (.int ds.length)) Q E → ∃ (y : V) (n : Nat), [x] = [y] ∧ LenV X.K y c.H n ∧ Q (.int n) c.H := fun h => by
        obtain ⟨ds, hd, h⟩ := PostM.sq h
        obtain ⟨a, xs, rfl, h3, h4⟩ := seq_at s hd h1
        rw [hK] at h3
        refine ⟨_, xs.length, rfl, h3.elim (fun z => .inl ⟨xs, z, rfl⟩) (fun z => .inr ⟨xs, z, rfl⟩), ?_⟩
        rw [← h4.length]
        exact PostM.rt (R := RD w) h s (rep_int.mpr rfl)
      cases d with
      | str z =>
        obtain ⟨g, h⟩ := PostM.grd h
        refine ⟨x, z.length, rfl, ?_, PostM.rt (R := RD w) h s (rep_int.mpr rfl)⟩
        rw [rep_str.mp h1]
        exact ⟨of_decide_eq_true g, rfl⟩
      | tup ds => exact gen h
      | loc l => exact gen h
      | _ => exact h.elim
theorem cr_int : CallR X (.type "int") (rBi w (biop .int)) := by
  refine CallR.imp (CallR.or (call_int1 (X := X)) (call_int_str (X := X))) ?_
  rintro vs H Q ⟨ds, c, E, rfl, s, r, h⟩
  cases ds with
  | nil => exact h.elim
  | cons d ds => cases ds with
    | cons e ds => cases d <;> exact h.elim
    | nil =>
      obtain ⟨x, r0, rfl, h1, h2⟩ := r.cons_inv
      rw [h2.nil_inv]
      cases d with
      | int i => exact .inl (.inl ⟨i, by rw [rep_int.mp h1], PostM.rt (R := RD w) h s (rep_int.mpr rfl)⟩)
      | bl i => exact .inl (.inr ⟨i, by rw [rep_bl.mp h1], PostM.rt (R := RD w) h s (rep_int.mpr rfl)⟩)
      | str z =>
        unfold biop at h
        cases e : intText? z with
        | none => simp only [e] at h; exact h.elim
        | some n =>
          simp only [e] at h
          obtain ⟨g, h⟩ := PostM.grd h
          exact .inr ⟨z, n, by rw [rep_str.mp h1], e, of_decide_eq_true g, PostM.rt (R := RD w) h s (rep_int.mpr rfl)⟩
      | _ => exact h.elim
theorem cr_str : CallR X (.type "str") (rBi w (biop .str)) := by
  refine CallR.imp (call_str_int (X := X)) ?_
  rintro vs H Q ⟨ds, c, E, rfl, s, r, h⟩
  cases ds with
  | nil => exact h.elim
  | cons d ds => cases ds with
    | cons e ds => cases d <;> exact h.elim
    | nil =>
      obtain ⟨x, r0, rfl, h1, h2⟩ := r.cons_inv
      rw [h2.nil_inv]
      cases d with
      | int i =>
        obtain ⟨g, h⟩ := PostM.grd h
        exact ⟨i, by rw [rep_int.mp h1], of_decide_eq_true g, PostM.rt (R := RD w) h s (rep_str.mpr rfl)⟩
      | _ => exact h.elim
theorem cr_max2 (hc : X.calm = true) : CallR X (.builtin "max") (rBi w (biop .max2)) := by
  refine CallR.imp (call_max2 (X := X) hc) ?_
  rintro vs H Q ⟨ds, c, E, rfl, s, r, h⟩
  cases ds with
  | nil => exact h.elim
  | cons d ds => cases ds with
    | nil => cases d <;> exact h.elim
    | cons e ds => cases ds with
      | cons _ _ => cases d <;> first | exact h.elim | (cases e <;> exact h.elim)
      | nil =>
        obtain ⟨x, r0, rfl, h1, h2⟩ := r.cons_inv
        obtain ⟨y, r1, rfl, h3, h4⟩ := h2.cons_inv
        rw [h4.nil_inv]
        cases d with
        | int i => cases e with
          | int j => exact ⟨i, j, by rw [rep_int.mp h1, rep_int.mp h3], PostM.rt (R := RD w) h s (rep_int.mpr rfl)⟩
          | _ => exact h.elim
        | _ => exact h.elim
theorem cr_min2 (hc : X.calm = true) : CallR X (.builtin "min") (rBi w (biop .min2)) := by
  refine CallR.imp (call_min2 (X := X) hc) ?_
  rintro vs H Q ⟨ds, c, E, rfl, s, r, h⟩
  cases ds with
  | nil => exact h.elim
  | cons d ds => cases ds with
    | nil => cases d <;> exact h.elim
    | cons e ds => cases ds with
      | cons _ _ => cases d <;> first | exact h.elim | (cases e <;> exact h.elim)
      | nil =>
        obtain ⟨x, r0, rfl, h1, h2⟩ := r.cons_inv
        obtain ⟨y, r1, rfl, h3, h4⟩ := h2.cons_inv
        rw [h4.nil_inv]
        cases d with
        | int i => cases e with
          | int j => exact ⟨i, j, by rw [rep_int.mp h1, rep_int.mp h3], PostM.rt (R := RD w) h s (rep_int.mpr rfl)⟩
          | _ => exact h.elim
        | _ => exact h.elim
theorem cr_tuple (hK : w.K = X.K) : CallR X (.type "tuple") (rBi w (biop .tuple)) := by
  refine CallR.imp (call_tuple_of (X := X)) ?_
  rintro vs H Q ⟨ds, c, E, rfl, s, r, h⟩
  cases ds with
  | nil => exact h.elim
  | cons d ds => cases ds with
    | cons e ds => cases d <;> exact h.elim
    | nil =>
      obtain ⟨x, r0, rfl, h1, h2⟩ := r.cons_inv
      rw [h2.nil_inv]
      obtain ⟨ds, hd, hh⟩ := PostM.sq h
      rcases hd with rfl | ⟨l, rfl, hl⟩
      · obtain ⟨a, xs, rfl, h3, h4⟩ := rep_tup.mp h1
        rw [hK] at h3
        exact ⟨a, xs, rfl, .inr ⟨h3, PostM.rt (R := RD w) hh s h1⟩⟩
      · obtain ⟨a, rfl, h3⟩ := rep_loc.mp h1
        rcases hl with hl | hl
        · obtain ⟨xs, h4, h5⟩ := s.ob l _ a hl h3
          exact ⟨a, xs, rfl, .inl ⟨SqL.of h4, PostM.newT hh s h5⟩⟩
        · obtain ⟨o, xs, h4, h5⟩ := s.ob l _ a hl h3
          exact ⟨a, xs, rfl, .inl ⟨.inl (.inr ⟨o, h4⟩), PostM.newT hh s h5⟩⟩
theorem cr_list (hK : w.K = X.K) : CallR X (.type "list") (rBi w (biop .list)) := by
  refine CallR.imp (call_list_of (X := X)) ?_
  rintro vs H Q ⟨ds, c, E, rfl, s, r, h⟩
  cases ds with
  | nil => exact h.elim
  | cons d ds => cases ds with
    | cons e ds => cases d <;> exact h.elim
    | nil =>
      obtain ⟨x, r0, rfl, h1, h2⟩ := r.cons_inv
      rw [h2.nil_inv]
      obtain ⟨ds, hd, h⟩ := PostM.sq h
      obtain ⟨a, xs, rfl, h3, h4⟩ := seq_at s hd h1
      rw [hK] at h3
      exact ⟨a, xs, rfl, h3, PostM.allocL h s h4⟩
theorem list_at {c : Cf} {l : Nat} {ds : List D} {v : V} (s : SR w c) (h : (D.loc l = .tup ds) ∨ ∃ l', D.loc l = .loc l' ∧ (c.st[l']? = some (.lst ds) ∨ c.st[l']? = some (.fro ds))) (r : Rep w c.φ c.H (.loc l) v) :
    ∃ a xs, v = .ref a ∧ SqL w.K c.H a xs ∧ RepL w c.φ c.H ds xs := by
  rcases h with h | ⟨l', e, h⟩
  · cases h
  · cases e
    obtain ⟨a, rfl, h1⟩ := rep_loc.mp r
    rcases h with h | h
    · obtain ⟨xs, h2, h3⟩ := s.ob l _ a h h1
      exact ⟨a, xs, rfl, SqL.of h2, h3⟩
    · obtain ⟨o, xs, h2, h3⟩ := s.ob l _ a h h1
      exact ⟨a, xs, rfl, .inl (.inr ⟨o, h2⟩), h3⟩
theorem cr_anyB (hK : w.K = X.K) (hc : X.calm = true) : CallR X (.builtin "any") (rBi w (biop .any)) := by
  refine CallR.imp (cr_any (X := X) hc) ?_
  rintro vs H Q ⟨ds, c, E, rfl, s, r, h⟩
  cases ds with
  | nil => exact h.elim
  | cons d ds => cases ds with
    | cons e ds => cases d <;> exact h.elim
    | nil =>
      obtain ⟨x, r0, rfl, h1, h2⟩ := r.cons_inv
      rw [h2.nil_inv]
      cases d with
      | loc l =>
        obtain ⟨ds, hd, h⟩ := PostM.sq h
        obtain ⟨bs, hb, h⟩ := PostM.opt h
        obtain ⟨a, xs, rfl, h3, h4⟩ := list_at s hd h1
        rw [boolsOf_eq hb] at h4
        rw [h4.bools, hK] at h3
        exact ⟨a, bs, rfl, h3, PostM.rt (R := RD w) h s (rep_bl.mpr rfl)⟩
      | _ => exact h.elim
theorem cr_allB (hK : w.K = X.K) (hc : X.calm = true) : CallR X (.builtin "all") (rBi w (biop .all)) := by
  refine CallR.imp (cr_all (X := X) hc) ?_
  rintro vs H Q ⟨ds, c, E, rfl, s, r, h⟩
  cases ds with
  | nil => exact h.elim
  | cons d ds => cases ds with
    | cons e ds => cases d <;> exact h.elim
    | nil =>
      obtain ⟨x, r0, rfl, h1, h2⟩ := r.cons_inv
      rw [h2.nil_inv]
      cases d with
      | loc l =>
        obtain ⟨ds, hd, h⟩ := PostM.sq h
        obtain ⟨bs, hb, h⟩ := PostM.opt h
        obtain ⟨a, xs, rfl, h3, h4⟩ := list_at s hd h1
        rw [boolsOf_eq hb] at h4
        rw [h4.bools, hK] at h3
        exact ⟨a, bs, rfl, h3, PostM.rt (R := RD w) h s (rep_bl.mpr rfl)⟩
      | _ => exact h.elim
/-- a built-in's name, and whether it is a type -/
def biN : Bi → Str × Value
  | .len => ("len", .builtin "len")
  | .int => ("int", .type "int")
  | .str => ("str", .type "str")
  | .max2 => ("max", .builtin "max")
  | .min2 => ("min", .builtin "min")
  | .tuple => ("tuple", .type "tuple")
  | .list => ("list", .type "list")
  | .any => ("any", .builtin "any")
  | .all => ("all", .builtin "all")
theorem cr_bi (hK : w.K = X.K) (hc : X.calm = true) : ∀ b : Bi, CallR X (biN b).2 (rBi w (biop b))
  | .len => cr_len hK
  | .int => cr_int
  | .str => cr_str
  | .max2 => cr_max2 hc
  | .min2 => cr_min2 hc
  | .tuple => cr_tuple hK
  | .list => cr_list hK
  | .any => cr_anyB hK hc
  | .all => cr_allB hK hc

/-! ### isinstance -/
def tyN : Ty → String
  | .int => "int"
  | .bool => "bool"
  | .str => "str"
  | .tuple => "tuple"
  | .list => "list"
  | .dict => "dict"
  | .float => "float"
  | .own _ => ""
def ownTy : Ty → Bool
  | .own _ => true
  | _ => false
theorem kit_isi {K : PySem.W.Frag} {t T : Ty} {b : Bool} (h : isiTy t T = some b) (ht : ownTy t = false) : PySem.W.kitOne K (.type (tyN t)) (.type (tyN T)) = some b := by
  apply kit_ty
  cases t <;> first | (cases ht; done) | skip
  all_goals (cases T <;> first | (cases h; done) | (cases h; decide +kernel))
theorem kit_non {K : PySem.W.Frag} {T : Ty} (h : ownTy T = false) : PySem.W.kitOne K (.type "NoneType") (.type (tyN T)) = some false := by
  apply kit_ty
  cases T <;> first | (cases h; done) | decide +kernel
theorem isi_own {t T : Ty} {b : Bool} (h : isiTy t T = some b) : ownTy t = false ∧ ownTy T = false := by
  cases t <;> cases T <;> first | (cases h; done) | exact ⟨rfl, rfl⟩
def rIsiD (w : Vw) (T : Ty) : List V → Hp → VK → Prop := fun vs H Q => ∃ d x c E, vs = [x, .ty (tyN T)] ∧ c.H = H ∧ SR w c ∧ Rep w c.φ c.H d x ∧ PostM w (RD w) c (isiD d T) Q E
theorem cr_isi (hK : w.K = X.K) (T : Ty) : CallR X (.builtin "isinstance") (rIsiD w T) := by
  refine CallR.imp (call_isi (X := X)) ?_
  rintro vs H Q ⟨d, x, c, E, rfl, rfl, s, r, h⟩
  have gen : ∀ t, typOf d c.st = some t → PostM w (RD w) c (fun st => match typOf d st with
      | some t => match isiTy t T with
        | some b => .ok (.bl b) st
        | none => .no
      | none => .no) Q E → (ownTy t = false → TyX X.K c.H x (.type (tyN t))) → rIsi X.K [x, .ty (tyN T)] c.H Q := fun t e h k => by
    unfold PostM at h
    simp only [e] at h
    cases e2 : isiTy t T with
    | none => simp only [e2] at h; exact h.elim
    | some b =>
      simp only [e2] at h
      obtain ⟨o1, o2⟩ := isi_own e2
      exact ⟨x, .ty (tyN T), .type (tyN t), .type (tyN T), b, rfl, .ty _, k o1, kit_isi e2 o1, h c.φ c.H (.bl b) (Mono.refl c) s (rep_bl.mpr rfl)⟩
  cases d with
  | non =>
    unfold PostM isiD at h
    have hT : ownTy T = false := by
      cases T <;> first | rfl | exact h.elim
    refine ⟨x, .ty (tyN T), .type "NoneType", .type (tyN T), false, rfl, .ty _, ?_, kit_non hT, ?_⟩
    · rw [rep_non.mp r]
      exact .base .non
    · cases T <;> first | exact h c.φ c.H (.bl false) (Mono.refl c) s (rep_bl.mpr rfl) | exact h.elim
  | bl b => exact gen .bool rfl h fun _ => by rw [rep_bl.mp r]; exact .base (.bl b)
  | int b => exact gen .int rfl h fun _ => by rw [rep_int.mp r]; exact .base (.int b)
  | str b => exact gen .str rfl h fun _ => by rw [rep_str.mp r]; exact .base (.str b)
  | tup ds =>
    refine gen .tuple rfl h fun _ => ?_
    · obtain ⟨a, xs, rfl, h1, _⟩ := rep_tup.mp r
      rw [hK] at h1
      rcases h1 with (h1 | ⟨o, h1⟩) | ⟨o, its, n, h1, h2, _⟩
      · exact .base (.tup h1)
      · exact .fTuple h1
      · exact .kTuple h1 h2
  | loc l =>
    obtain ⟨a, rfl, h1⟩ := rep_loc.mp r
    cases e : c.st[l]? with
    | none =>
      unfold PostM isiD typOf at h
      simp only [e] at h
      exact h.elim
    | some o => cases o with
      | lst ds =>
        refine gen .list (by unfold typOf; simp only [e]) h fun _ => ?_
        · obtain ⟨xs, h2, _⟩ := s.ob l _ a e h1
          exact .base (.lst h2)
      | fro ds =>
        refine gen .list (by unfold typOf; simp only [e]) h fun _ => ?_
        · obtain ⟨o, xs, h2, _⟩ := s.ob l _ a e h1
          exact .base (.frz h2)
      | dct kvs => exact (s.ob l _ a e h1).elim
      | ins k fs => exact gen (.own k) (by unfold typOf; simp only [e]) h fun z => by cases z
      | cell d =>
        unfold PostM isiD typOf at h
        simp only [e] at h
        exact h.elim
  | fn f => exact h.elim
  | clo k ls => exact h.elim

/-! ### subscripts, slices -/
theorem atI_rep {φ : List Addr} {H : Hp} {ds : List D} {xs : List V} {i : Int} {d : D} (h : RepL w φ H ds xs) (e : atI ds i = some d) : ∃ x, atI xs i = some x ∧ Rep w φ H d x := by
  unfold atI at e ⊢
  rw [h.length] at e
  cases q : ixN xs.length i with
  | none => rw [q] at e; cases e
  | some j =>
    rw [q] at e
    exact h.get e
theorem ix_D (hK : w.K = X.K) : IxR X (r2 w idxD) := by
  have base := ix_seq (X := X)
  intro value slice pins s σ H x y v u Q I rx ry q hs
  refine base value slice pins s σ H x y v u Q I rx ry ?_ hs
  obtain ⟨d, e, c, E, rfl, sr, qx, qy, h⟩ := q
  cases e with
  | int i =>
    have qy := rep_int.mp qy
    have gen : PostM w (RD w) c (bnd (seqOf d) fun ds => MI.ofO (atI ds i)) Q E → rIxL X.K x y c.H Q ∨ rIxT X.K x y c.H Q ∨ rIxS x y c.H Q := fun h => by
      obtain ⟨ds, hd, h⟩ := PostM.sq h
      obtain ⟨a, xs, rfl, h1, h2⟩ := seq_at sr hd qx
      unfold PostM MI.ofO at h
      cases e : atI ds i with
      | none => simp only [e] at h; exact h.elim
      | some z =>
        simp only [e] at h
        obtain ⟨zv, h3, h4⟩ := atI_rep h2 e
        have fin : Q zv c.H := h c.φ c.H zv (Mono.refl c) sr h4
        rw [hK] at h1
        rcases h1 with h1 | h1
        · exact .inl ⟨a, xs, i, zv, rfl, qy, h1, h3, fin⟩
        · exact .inr (.inl ⟨a, xs, i, zv, rfl, qy, h1, h3, fin⟩)
    cases d with
    | str z =>
      unfold PostM idxD at h
      obtain ⟨g, h⟩ := PostM.grd h
      unfold PostM at h
      cases e : atI z.cps.toList i with
      | none => simp only [e] at h; exact h.elim
      | some k =>
        simp only [e] at h
        exact .inr (.inr ⟨z, i, k, rep_str.mp qx, qy, of_decide_eq_true g, e, h c.φ c.H _ (Mono.refl c) sr (rep_str.mpr rfl)⟩)
    | tup ds => exact gen h
    | loc l => exact gen h
    | _ => exact h.elim
  | _ => exact h.elim
theorem cut_rep {φ : List Addr} {H : Hp} {ds : List D} {xs : List V} (h : RepL w φ H ds xs) (lo hi : Option Int) : RepL w φ H (cutL ds lo hi) (cutV xs lo hi) := by
  unfold cutL cutV
  rw [h.length]
  exact RepL.take _ (RepL.drop _ h)
theorem SlR.imp {r r' : V → Option Int → Option Int → Hp → VK → Prop} (h : SlR X r) (k : ∀ x lo hi H Q, r' x lo hi H Q → r x lo hi H Q) : SlR X r' :=
  fun pins s σ H x v vl vu lo hi sl Q I rx hs pl pu q => h pins s σ H x v vl vu lo hi sl Q I rx hs pl pu (k x lo hi H Q q)
def ofPart : Option Int → D
  | none => .non
  | some i => .int i
theorem part_of (o : Option Int) : partOf (ofPart o) = some o := by cases o <;> rfl
def rSlD (w : Vw) : V → Option Int → Option Int → Hp → VK → Prop := fun x lo hi H Q => ∃ d c E, c.H = H ∧ SR w c ∧ Rep w c.φ c.H d x ∧ PostM w (RD w) c (sliD d (ofPart lo) (ofPart hi)) Q E
theorem sl_whole {ds : List D} {lo hi : Option Int} (h : HT.sIx ds.length 0 lo = 0 ∧ HT.sIx ds.length ds.length hi = ds.length) : cutL ds lo hi = ds := by
  unfold cutL
  rw [h.1, h.2]
  simp
theorem sl_D (hK : w.K = X.K) : SlR X (rSlD w) := by
  refine SlR.imp (SlR.or (sl_str (X := X)) (SlR.or (sl_tupA (X := X)) (sl_list (X := X)))) ?_
  rintro x lo hi H Q ⟨d, c, E, rfl, s, r, h⟩
  unfold sliD at h
  simp only [part_of] at h
  cases d with
  | str z =>
    obtain ⟨g, h⟩ := PostM.grd h
    exact .inl ⟨z, rep_str.mp r, of_decide_eq_true g, PostM.rt (R := RD w) h s (rep_str.mpr rfl)⟩
  | tup ds =>
    obtain ⟨a, xs, rfl, h1, h2⟩ := rep_tup.mp r
    rw [hK] at h1
    refine .inr (.inl ⟨a, xs, rfl, h1, fun z => ?_, fun _ => PostM.newT h s (cut_rep h2 lo hi)⟩)
    rw [← h2.length] at z
    have h : PostM w (RD w) c (MI.ret (.tup (cutL ds lo hi))) Q E := h
    rw [sl_whole z] at h
    exact PostM.rt (R := RD w) h s r
  | loc l =>
    obtain ⟨ds, hd, h⟩ := PostM.sq h
    obtain ⟨a, xs, rfl, h1, h2⟩ := list_at s hd r
    rw [hK] at h1
    exact .inr (.inr ⟨a, xs, rfl, h1, PostM.allocL h s (cut_rep h2 lo hi)⟩)
  | _ => exact h.elim
end
end MI

set_option Elab.async false
set_option linter.all false
set_option maxRecDepth 100000
set_option maxHeartbeats 4000000
/-! MINI, part 8: methods of texts and lists, by values. -/
namespace MI
open PySem PySem.Spec PyProof.Rows L2
section
variable {X : Cx} {w : Vw}
theorem MtR.imp {id : String} {r r' : V → List V → Hp → VK → Prop} (h : MtR X id r) (k : ∀ x xs H Q, r' x xs H Q → r x xs H Q) : MtR X id r' :=
  fun pins s σ H x xs v us Q I rx rs q => h pins s σ H x xs v us Q I rx rs (k x xs H Q q)
def rMt (w : Vw) (m : D → List D → M D) : V → List V → Hp → VK → Prop := fun x vs H Q => ∃ d ds c E, c.H = H ∧ SR w c ∧ Rep w c.φ c.H d x ∧ RepL w c.φ c.H ds vs ∧ PostM w (RD w) c (m d ds) Q E
def strMD (m : Sm) (d : D) (ds : List D) : M D := match d with
  | .str s => strM m s ds
  | _ => no
def lstMD (m : Lm') (d : D) (ds : List D) : M D := fun st => match d with
  | .loc l => match st[l]? with
    | some (.lst xs) => lstM m l xs ds st
    | _ => .no
  | _ => .no
theorem mt_upperD : MtR X "str.upper" (rMt w (strMD .upper)) := by
  refine MtR.imp (mt_upper (X := X)) ?_
  rintro x vs H Q ⟨d, ds, c, E, rfl, s, r, rs, h⟩
  cases d with
  | str z => cases ds with
    | nil =>
      obtain ⟨g, h⟩ := PostM.grd h
      exact ⟨z, rep_str.mp r, rs.nil_inv, of_decide_eq_true g, PostM.rt (R := RD w) h s (rep_str.mpr rfl)⟩
    | cons e ds => exact h.elim
  | _ => exact h.elim
theorem mt_splitD : MtR X "str.split" (rMt w (strMD .split)) := by
  refine MtR.imp (mt_split (X := X)) ?_
  rintro x vs H Q ⟨d, ds, c, E, rfl, s, r, rs, h⟩
  cases d with
  | str z => cases ds with
    | nil => exact h.elim
    | cons e ds => cases ds with
      | nil =>
        obtain ⟨y, r0, rfl, h1, h2⟩ := rs.cons_inv
        rw [h2.nil_inv]
        cases e with
        | str b =>
          obtain ⟨g, h⟩ := PostM.grd h
          simp only [Bool.and_eq_true, decide_eq_true_eq, Bool.not_eq_true'] at g
          exact ⟨z, b, rep_str.mp r, by rw [rep_str.mp h1], g.1, g.2, PostM.allocL h s (RepL.of_strs _)⟩
        | _ => exact h.elim
      | cons _ _ => cases e <;> exact h.elim
  | _ => exact h.elim
theorem mt_joinD (hK : w.K = X.K) : MtR X "str.join" (rMt w (strMD .join)) := by
  refine MtR.imp (mt_join (X := X)) ?_
  rintro x vs H Q ⟨d, ds, c, E, rfl, s, r, rs, h⟩
  cases d with
  | str z => cases ds with
    | nil => exact h.elim
    | cons e ds => cases ds with
      | nil =>
        obtain ⟨y, r0, rfl, h1, h2⟩ := rs.cons_inv
        rw [h2.nil_inv]
        obtain ⟨ds, hd, h⟩ := PostM.sq h
        obtain ⟨ys, hy, h⟩ := PostM.opt h
        obtain ⟨g, h⟩ := PostM.grd h
        obtain ⟨a, xs, rfl, h3, h4⟩ := seq_at s hd h1
        rw [strsOf_eq hy] at h4
        rw [h4.strs, hK] at h3
        exact ⟨z, a, ys, rep_str.mp r, rfl, h3, of_decide_eq_true g, PostM.rt (R := RD w) h s (rep_str.mpr rfl)⟩
      | cons _ _ => exact h.elim
  | _ => exact h.elim
/-- a list of the store -/
theorem lst_in {c : Cf} {m : Lm'} {d : D} {ds : List D} {x : V} {Q : VK} {E : XK} (s : SR w c) (r : Rep w c.φ c.H d x) (h : PostM w (RD w) c (lstMD m d ds) Q E) :
    ∃ l a us xs, d = .loc l ∧ x = .ref a ∧ c.φ[l]? = some a ∧ c.st[l]? = some (.lst us) ∧ c.H a = some (.lst xs) ∧ RepL w c.φ c.H us xs ∧ PostM w (RD w) c (lstM m l us ds) Q E := by
  unfold PostM lstMD at h
  cases d with
  | loc l =>
    obtain ⟨a, rfl, h1⟩ := rep_loc.mp r
    cases e : c.st[l]? with
    | none => simp only [e] at h; exact h.elim
    | some o => cases o with
      | lst us =>
        simp only [e] at h
        obtain ⟨xs, h2, h3⟩ := s.ob l _ a e h1
        exact ⟨l, a, us, xs, rfl, rfl, h1, e, h2, h3, h⟩
      | _ => simp only [e] at h; exact h.elim
  | _ => exact h.elim
/-- the list is written, then a value -/
theorem PostM.wr {c : Cf} {l : Nat} {a : Addr} {us us' : List D} {xs xs' : List V} {d : D} {v : V} {Q : VK} {E : XK} (h : PostM w (RD w) c (bnd (setAt l (.lst us')) fun _ => ret d) Q E) (s : SR w c) (hl : c.st[l]? = some (.lst us)) (ha : c.φ[l]? = some a)
    (hx : c.H a = some (.lst xs)) (r : RepL w c.φ c.H us' xs') (rv : Rep w c.φ c.H d v) : Q v (upd c.H a (.lst xs')) := by
  obtain ⟨m, s'⟩ := write_list s hl ha hx r
  exact h c.φ (upd c.H a (.lst xs')) v m s' (rv.mono m)
theorem mt_appendD : MtR X "list.append" (rMt w (lstMD .append)) := by
  refine MtR.imp (mt_append (X := X)) ?_
  rintro x vs H Q ⟨d, ds, c, E, rfl, s, r, rs, h⟩
  obtain ⟨l, a, us, xs, rfl, rfl, ha, hl, hx, hr, h⟩ := lst_in s r h
  cases ds with
  | nil => exact h.elim
  | cons e ds => cases ds with
    | nil =>
      obtain ⟨y, r0, rfl, h1, h2⟩ := rs.cons_inv
      rw [h2.nil_inv]
      obtain ⟨g, h⟩ := PostM.grd h
      exact ⟨a, xs, y, rfl, rfl, hx, by rw [← hr.length]; exact of_decide_eq_true g, PostM.wr h s hl ha hx (hr.append (.cons h1 .nil)) (rep_non.mpr rfl)⟩
    | cons _ _ => exact h.elim
theorem mt_extendD : MtR X "list.extend" (rMt w (lstMD .extend)) := by
  refine MtR.imp (mt_extend (X := X)) ?_
  rintro x vs H Q ⟨d, ds, c, E, rfl, s, r, rs, h⟩
  obtain ⟨l, a, us, xs, rfl, rfl, ha, hl, hx, hr, h⟩ := lst_in s r h
  cases ds with
  | nil => exact h.elim
  | cons e ds => cases ds with
    | nil =>
      obtain ⟨y, r0, rfl, h1, h2⟩ := rs.cons_inv
      rw [h2.nil_inv]
      unfold PostM lstM extD at h
      cases e with
      | loc k =>
        obtain ⟨b, rfl, hb⟩ := rep_loc.mp h1
        cases e2 : c.st[k]? with
        | none => simp only [e2] at h; exact h.elim
        | some o => cases o with
          | lst zs =>
            simp only [e2] at h
            obtain ⟨g, h⟩ := PostM.grd (c := c) h
            obtain ⟨zv, h3, h4⟩ := s.ob k _ b e2 hb
            exact ⟨a, b, xs, zv, rfl, rfl, hx, h3, by rw [← hr.length, ← h4.length]; exact of_decide_eq_true g, PostM.wr h s hl ha hx (hr.append h4) (rep_non.mpr rfl)⟩
          | _ => simp only [e2] at h; exact h.elim
      | _ => exact h.elim
    | cons _ _ => exact h.elim
theorem drop_rep {φ : List Addr} {H : Hp} {ds : List D} {xs : List V} (h : RepL w φ H ds xs) : RepL w φ H ds.dropLast xs.dropLast := by
  rw [List.dropLast_eq_take, List.dropLast_eq_take, h.length]
  exact RepL.take _ h
theorem mt_popD : MtR X "list.pop" (rMt w (lstMD .pop)) := by
  refine MtR.imp (MtR.or (mt_pop (X := X)) (mt_popAt (X := X))) ?_
  rintro x vs H Q ⟨d, ds, c, E, rfl, s, r, rs, h⟩
  obtain ⟨l, a, us, xs, rfl, rfl, ha, hl, hx, hr, h⟩ := lst_in s r h
  cases ds with
  | nil =>
    unfold lstM at h
    cases e : us.getLast? with
    | none => simp only [e] at h; exact h.elim
    | some z =>
      simp only [e] at h
      have e' : us[us.length - 1]? = some z := by rw [← List.getLast?_eq_getElem?]; exact e
      obtain ⟨zv, h3, h4⟩ := hr.get e'
      rw [hr.length] at h3
      exact .inl ⟨a, xs, zv, rfl, rs.nil_inv, hx, h3, PostM.wr h s hl ha hx (drop_rep hr) h4⟩
  | cons e ds => cases ds with
    | nil =>
      obtain ⟨y, r0, rfl, h1, h2⟩ := rs.cons_inv
      rw [h2.nil_inv]
      cases e with
      | int i =>
        obtain ⟨g, h⟩ := PostM.grd h
        simp only [Bool.and_eq_true, decide_eq_true_eq] at g
        unfold popD at h
        cases e1 : seqIndex? i us.length with
        | none => simp only [e1] at h; exact h.elim
        | some k =>
          simp only [e1] at h
          cases e2 : us[k]? with
          | none => simp only [e2] at h; exact h.elim
          | some z =>
            simp only [e2] at h
            obtain ⟨zv, h3, h4⟩ := hr.get e2
            rw [hr.length] at e1
            exact .inr ⟨a, xs, i, k, zv, rfl, by rw [rep_int.mp h1], hx, g.1, g.2, e1, h3, PostM.wr h s hl ha hx (hr.erase k) h4⟩
      | _ => exact h.elim
    | cons _ _ => cases e <;> exact h.elim
end
end MI

set_option Elab.async false
set_option linter.all false
set_option maxRecDepth 100000
set_option maxHeartbeats 4000000
/-! MINI, part 9: expressions, node by node. -/
namespace MI
open PySem PySem.Spec PyProof.Rows L2
section
variable {X : Cx} {w : Vw} {W : WX} {σ : L2.St} {H : Hp}
/-- a first part, a second part, then the rest -/
theorem tM_bnd2 {α β : Type} {R : RR α β} {m1 m2 : Fr → M D} {f : D → D → M α} {Q : β → Hp → Prop} (h : tM X w W R (fun fr => bnd (m1 fr) fun x => bnd (m2 fr) fun y => f x y) σ H Q) {P : V → V → Hp → Prop}
    (k : ∀ x y v u c, SR w c → Rep w c.φ c.H x v → Rep w c.φ c.H y u → PostM w R c (f x y) Q (WE W σ) → P v u c.H) :
    tM X w W (RD w) m1 σ H fun v H1 => tM X w W (RD w) m2 σ H1 fun u H2 => P v u H2 :=
  tM_bnd h fun fr d v c hf hs hr hp => tM_of hf hs (Post.imp hp.bn fun u H2 ⟨e, c2, e2, mo, s2, r2, hp2⟩ => by
    subst e2
    exact k d e v u c2 s2 (hr.mono mo) r2 hp2)
variable {a b e : Expr} {pos : Pos} {ma mb mc : Fr → M D}

theorem me_var {i : Nat} {x : Str} (hN : X.N[i]? = some x) (hv : Vis X.env.scope x) (hd : (x == ("__debug__" : Str)) = false) (hcd : (x == ("__classdict__" : Str)) = false) :
    PE X (.Name x pos) (tM X w W (RD w) fun fr st => match fr.ρ[i]? with
      | some (some d) => .ok d st
      | _ => .no) := by
  refine PE.imp (pe_var hN hv hd hcd) fun σ H Q h => ?_
  obtain ⟨fr, c, rfl, hf, hs, hp⟩ := h
  unfold PostM at hp
  cases e : fr.ρ[i]? with
  | none => simp only [e] at hp; exact hp.elim
  | some o => cases o with
    | none => simp only [e] at hp; exact hp.elim
    | some d =>
      simp only [e] at hp
      obtain ⟨v, h1, h2⟩ := hf.val i d e
      exact ⟨v, h1, hp c.φ c.H v (Mono.refl c) hs h2⟩
theorem me_const {d : D} {v : V} (h : PE X e (tC v)) (r : ∀ φ H, Rep w φ H d v) : PE X e (tM X w W (RD w) fun _ => ret d) := by
  refine PE.imp h fun σ H Q h => ?_
  obtain ⟨fr, c, rfl, hf, hs, hp⟩ := h
  exact hp c.φ c.H v (Mono.refl c) hs (r _ _)
theorem me_bin (hK : w.K = X.K) (op : Bop) (ha : PE X a (tM X w W (RD w) ma)) (hb : PE X b (tM X w W (RD w) mb)) :
    PE X (.BinOp a (bopOf op) b pos) (tM X w W (RD w) fun fr => bnd (ma fr) fun x => bnd (mb fr) fun y => binop op x y) :=
  PE.imp (pe_op (or_bin hK op) ha hb) fun σ H Q h => tM_bnd2 h fun x y v u c s r1 r2 hp => ⟨x, y, c, _, rfl, s, r1, r2, hp⟩
theorem me_cmp (hK : w.K = X.K) (hu : X.A.units + 64 < cLine) (op : Cop) (hm : behindInMarks (copOf op) b = false) (ha : PE X a (tM X w W (RD w) ma)) (hb : PE X b (tM X w W (RD w) mb)) :
    PE X (.Compare a [copOf op] [b] pos) (tM X w W (RD w) fun fr => bnd (ma fr) fun x => bnd (mb fr) fun y => cmpop op x y) :=
  PE.imp (pe_cmpR (or_cmp hK hu op) ha hb hm) fun σ H Q h => tM_bnd2 h fun x y v u c s r1 r2 hp => ⟨x, y, c, _, rfl, s, r1, r2, hp⟩
theorem tst_in {α β : Type} {R : RR α β} {c : Cf} {d : D} {v : V} {f : Bool → M α} {Q : β → Hp → Prop} {E : XK} (r : Rep w c.φ c.H d v) (h : PostM w R c (bnd (tst d) f) Q E) : ∃ t, v = .bl t ∧ d = .bl t ∧ PostM w R c (f t) Q E := by
  cases d with
  | bl t => exact ⟨t, rep_bl.mp r, rfl, h⟩
  | _ => exact h.elim
/-- the test of such an expression -/
theorem mt_of {e : Expr} (h : PE X e (tM X w W (RD w) ma)) (he : ∀ whole, isTrue e X.env whole = (do let v ← whole; standAt e.pos; holding [v] (truthy v))) : PT X e (tM X w W RB fun fr => bnd (ma fr) tst) := by
  refine PT.imp (pt_val h he) fun σ H Q h => ?_
  refine tM_bnd h fun fr d v c hf hs hr hp => ?_
  cases d with
  | bl t => exact ⟨t, rep_bl.mp hr, PostM.rt (R := RB) hp hs rfl⟩
  | _ => exact hp.elim
theorem me_neg (ha : PE X a (tM X w W (RD w) ma)) : PE X (.UnaryOp .USub a pos) (tM X w W (RD w) fun fr => bnd (ma fr) fun x => match x with
    | .int i => ret (.int (-i))
    | _ => no) :=
  PE.imp (pe_un un_neg ha) fun σ H Q h => tM_bnd h fun fr d v c hf hs hr hp => by
    cases d with
    | int i => exact ⟨i, rep_int.mp hr, PostM.rt (R := RD w) hp hs (rep_int.mpr rfl)⟩
    | _ => exact hp.elim
theorem me_not (ha : PE X a (tM X w W (RD w) ma)) : PE X (.UnaryOp .Not a pos) (tM X w W (RD w) fun fr => bnd (ma fr) fun x => bnd (tst x) fun b => ret (.bl (!b))) :=
  PE.imp (pe_not ha) fun σ H Q h => tM_bnd h fun fr d v c hf hs hr hp => by
    obtain ⟨t, rfl, _, hp⟩ := tst_in hr hp
    exact ⟨t, rfl, PostM.rt (R := RD w) hp hs (rep_bl.mpr rfl)⟩
theorem mt_not (ha : PT X a (tM X w W RB fun fr => bnd (ma fr) tst)) : PT X (.UnaryOp .Not a pos) (tM X w W RB fun fr => bnd (bnd (ma fr) fun x => bnd (tst x) fun b => ret (.bl (!b))) tst) := by
  refine PT.imp (pt_not ha) fun σ H Q h => ?_
  obtain ⟨fr, c, rfl, hf, hs, hp⟩ := h
  refine tM_of (R := RB) hf hs ?_
  unfold PostM bnd at hp ⊢
  cases e : ma fr c.st with
  | ok d st' =>
    simp only [e] at hp ⊢
    cases d with
    | bl t => exact fun φ' H' v m s r => hp φ' H' (!v) m s (by rw [show v = t from (Eq.symm r)])
    | _ => exact hp
  | ex x st' => simp only [e] at hp ⊢; exact hp
  | no => simp only [e] at hp; exact False.elim hp
/-- and, or: as values, as tests -/
theorem me_and (ha : PE X a (tM X w W (RD w) ma)) {rest : List Expr} (hb : PE X (.BoolOp .And (b :: rest) pos) (tM X w W (RD w) mb)) :
    PE X (.BoolOp .And (a :: b :: rest) pos) (tM X w W (RD w) fun fr => bnd (ma fr) fun x => bnd (tst x) fun t => match t with
      | true => mb fr
      | false => ret (.bl false)) :=
  PE.imp (pe_and ha hb) fun σ H Q h => tM_bnd h fun fr d v c hf hs hr hp => by
    obtain ⟨t, rfl, _, hp⟩ := tst_in hr hp
    refine ⟨t, rfl, ?_⟩
    cases t with
    | true =>
      rw [if_pos rfl]
      exact tM_of hf hs hp
    | false =>
      rw [if_neg Bool.false_ne_true]
      exact PostM.rt (R := RD w) hp hs (rep_bl.mpr rfl)
theorem me_or (ha : PE X a (tM X w W (RD w) ma)) {rest : List Expr} (hb : PE X (.BoolOp .Or (b :: rest) pos) (tM X w W (RD w) mb)) :
    PE X (.BoolOp .Or (a :: b :: rest) pos) (tM X w W (RD w) fun fr => bnd (ma fr) fun x => bnd (tst x) fun t => match t with
      | true => ret (.bl true)
      | false => mb fr) :=
  PE.imp (pe_or ha hb) fun σ H Q h => tM_bnd h fun fr d v c hf hs hr hp => by
    obtain ⟨t, rfl, _, hp⟩ := tst_in hr hp
    refine ⟨t, rfl, ?_⟩
    cases t with
    | true =>
      rw [if_pos rfl]
      exact PostM.rt (R := RD w) hp hs (rep_bl.mpr rfl)
    | false =>
      rw [if_neg Bool.false_ne_true]
      exact tM_of hf hs hp
/-- a test first, then the rest -/
theorem tT_bnd {α β : Type} {R : RR α β} {f : Fr → Bool → M α} {Q : β → Hp → Prop} (h : tM X w W R (fun fr => bnd (ma fr) fun x => bnd (tst x) (f fr)) σ H Q) {P : Bool → Hp → Prop}
    (k : ∀ fr t c, FrR X w fr σ c → SR w c → PostM w R c (f fr t) Q (WE W σ) → P t c.H) : tM X w W RB (fun fr => bnd (ma fr) tst) σ H P := by
  have h' : tM X w W R (fun fr => bnd (bnd (ma fr) tst) (f fr)) σ H Q := by
    obtain ⟨fr, c, e, hf, hs, hp⟩ := h
    refine ⟨fr, c, e, hf, hs, ?_⟩
    unfold PostM MI.bnd at hp ⊢
    cases e : ma fr c.st with
    | ok d st' =>
      simp only [e] at hp ⊢
      cases d <;> exact hp
    | ex x st' => simp only [e] at hp ⊢; exact hp
    | no => simp only [e] at hp; exact False.elim hp
  refine tM_bnd (R' := RB) h' fun fr d v c hf hs hr hp => ?_
  have : d = v := hr
  subst this
  exact k fr d c hf hs hp
theorem mw_and (ha : PT X a (tM X w W RB fun fr => bnd (ma fr) tst)) {rest : List Expr} (hb : PW X (.BoolOp .And (b :: rest) pos) (tM X w W RB fun fr => bnd (mb fr) tst)) :
    PW X (.BoolOp .And (a :: b :: rest) pos) (tM X w W RB fun fr => bnd (bnd (ma fr) fun x => bnd (tst x) fun t => match t with
      | true => mb fr
      | false => ret (.bl false)) tst) := by
  refine PW.imp (pw_and ha hb) fun σ H Q h => ?_
  have h' : tM X w W RB (fun fr => bnd (ma fr) fun x => bnd (tst x) fun t => bnd (match t with
      | true => mb fr
      | false => ret (.bl false)) tst) σ H Q := by
    obtain ⟨fr, c, e, hf, hs, hp⟩ := h
    refine ⟨fr, c, e, hf, hs, ?_⟩
    unfold PostM MI.bnd at hp ⊢
    cases e : ma fr c.st with
    | ok d st' =>
      simp only [e] at hp ⊢
      cases d <;> exact hp
    | ex x st' => simp only [e] at hp ⊢; exact hp
    | no => simp only [e] at hp; exact False.elim hp
  refine tT_bnd h' fun fr t c hf hs hp => ?_
  cases t with
  | true =>
    rw [if_pos rfl]
    exact tM_of hf hs hp
  | false =>
    rw [if_neg Bool.false_ne_true]
    exact hp c.φ c.H false (Mono.refl c) hs rfl
theorem mw_or (ha : PT X a (tM X w W RB fun fr => bnd (ma fr) tst)) {rest : List Expr} (hb : PW X (.BoolOp .Or (b :: rest) pos) (tM X w W RB fun fr => bnd (mb fr) tst)) :
    PW X (.BoolOp .Or (a :: b :: rest) pos) (tM X w W RB fun fr => bnd (bnd (ma fr) fun x => bnd (tst x) fun t => match t with
      | true => ret (.bl true)
      | false => mb fr) tst) := by
  refine PW.imp (pw_or ha hb) fun σ H Q h => ?_
  have h' : tM X w W RB (fun fr => bnd (ma fr) fun x => bnd (tst x) fun t => bnd (match t with
      | true => ret (.bl true)
      | false => mb fr) tst) σ H Q := by
    obtain ⟨fr, c, e, hf, hs, hp⟩ := h
    refine ⟨fr, c, e, hf, hs, ?_⟩
    unfold PostM MI.bnd at hp ⊢
    cases e : ma fr c.st with
    | ok d st' =>
      simp only [e] at hp ⊢
      cases d <;> exact hp
    | ex x st' => simp only [e] at hp ⊢; exact hp
    | no => simp only [e] at hp; exact False.elim hp
  refine tT_bnd h' fun fr t c hf hs hp => ?_
  cases t with
  | true =>
    rw [if_pos rfl]
    exact hp c.φ c.H true (Mono.refl c) hs rfl
  | false =>
    rw [if_neg Bool.false_ne_true]
    exact tM_of hf hs hp
theorem me_ife {q : Expr} (hq : PT X q (tM X w W RB fun fr => bnd (mc fr) tst)) (ha : PE X a (tM X w W (RD w) ma)) (hb : PE X b (tM X w W (RD w) mb)) :
    PE X (.IfExp q a b pos) (tM X w W (RD w) fun fr => bnd (mc fr) fun x => bnd (tst x) fun t => match t with
      | true => ma fr
      | false => mb fr) :=
  PE.imp (pe_ifExp hq ha hb) fun σ H Q h => tT_bnd h fun fr t c hf hs hp => by
    cases t with
    | true =>
      rw [if_pos rfl]
      exact tM_of hf hs hp
    | false =>
      rw [if_neg Bool.false_ne_true]
      exact tM_of hf hs hp
theorem me_chain (hK : w.K = X.K) (hu : X.A.units + 64 < cLine) (op op' : Cop) {q : Expr} (hm' : behindInMarks (copOf op') q = false) (ha : PE X a (tM X w W (RD w) ma)) (hb : PE X b (tM X w W (RD w) mb)) (hq : PE X q (tM X w W (RD w) mc)) :
    PE X (.Compare a [copOf op, copOf op'] [b, q] pos) (tM X w W (RD w) fun fr => bnd (ma fr) fun x => bnd (mb fr) fun y => bnd (cmpop op x y) fun z => bnd (tst z) fun t => match t with
      | true => bnd (mc fr) fun u => cmpop op' y u
      | false => ret (.bl false)) := by
  refine PE.imp (pe_chain (or_cmp hK hu op) (or_cmp hK hu op') ha hb hq hm') fun σ H Q h => ?_
  refine tM_bnd h fun fr x v c hf hs hr hp => tM_of hf hs (Post.imp hp.bn fun u H2 ⟨y, c2, e2, mo, s2, r2, hp2⟩ => ?_)
  subst e2
  refine ⟨x, y, c2, _, rfl, s2, hr.mono mo, r2, Post.imp (hp2.bn (R' := RD w)) fun z H3 ⟨z', c3, e3, mo3, s3, r3, hp3⟩ => ?_⟩
  subst e3
  obtain ⟨t, rfl, _, hp3⟩ := tst_in r3 hp3
  refine ⟨t, rfl, ?_⟩
  cases t with
  | true =>
    rw [if_pos rfl]
    exact tM_of (hf.mono (mo.trans mo3)) s3 (Post.imp hp3.bn fun u' H4 ⟨y', c4, e4, mo4, s4, r4, hp4⟩ => by
      subst e4
      exact ⟨y, y', c4, _, rfl, s4, r2.mono (mo3.trans mo4), r4, hp4⟩)
  | false =>
    rw [if_neg Bool.false_ne_true]
    exact PostM.rt (R := RD w) hp3 s3 (rep_bl.mpr rfl)
/-! ### lists of arguments -/
theorem ma_nil : PA X [] (tM X w W (RL w) fun _ => ret (.tup [])) := PA.imp pa_nil fun σ H Q h => by
  obtain ⟨fr, c, rfl, hf, hs, hp⟩ := h
  exact hp c.φ c.H [] (Mono.refl c) hs ⟨[], rfl, RepL.nil⟩
theorem ma_cons {es : List Expr} {ms : Fr → M D} (ha : PE X a (tM X w W (RD w) ma)) (hr : PA X es (tM X w W (RL w) ms)) (hs : starEach (a :: es) X.env = (false, eval a X.env) :: starEach es X.env) :
    PA X (a :: es) (tM X w W (RL w) fun fr => bnd (ma fr) fun x => bnd (ms fr) fun y => match y with
      | .tup ys => ret (.tup (x :: ys))
      | _ => no) :=
  PA.imp (pa_cons ha hr hs) fun σ H Q h => tM_bnd h fun fr d v c hf hs hr hp => tM_of (R := RL w) hf hs (Post.imp (hp.bn (R' := RL w)) fun vs H2 ⟨e, c2, e2, mo, s2, ⟨ds, e3, r2⟩, hp2⟩ => by
    subst e2 e3
    exact hp2 c2.φ c2.H (v :: vs) (Mono.refl c2) s2 ⟨d :: ds, rfl, .cons (hr.mono mo) r2⟩)
/-- the arguments first, then the rest -/
theorem tA_bnd {α β : Type} {R : RR α β} {ms : Fr → M D} {f : Fr → List D → M α} {Q : β → Hp → Prop} (h : tM X w W R (fun fr => bnd (ms fr) fun y => match y with
      | .tup ys => f fr ys
      | _ => no) σ H Q) {P : List V → Hp → Prop}
    (k : ∀ fr ds vs c, FrR X w fr σ c → SR w c → RepL w c.φ c.H ds vs → PostM w R c (f fr ds) Q (WE W σ) → P vs c.H) : tM X w W (RL w) ms σ H P :=
  tM_bnd (R' := RL w) h fun fr d v c hf hs hr hp => by
    obtain ⟨ds, rfl, hr⟩ := hr
    exact k fr ds v c hf hs hr hp
theorem me_tup {es : List Expr} {x1 : Nat} {ms : Fr → M D} (h : PA X es (tM X w W (RL w) ms)) : PE X (.Tuple es x1 pos) (tM X w W (RD w) fun fr => bnd (ms fr) fun y => match y with
    | .tup ys => bnd (guard (decide (ys.length ≤ sizeLine))) fun _ => ret (.tup ys)
    | _ => no) :=
  PE.imp (pe_tup h) fun σ H Q h => tA_bnd (f := fun _ ys => bnd (guard (decide (ys.length ≤ sizeLine))) fun _ => ret (D.tup ys)) h fun fr ds vs c hf hs hr hp => by
    obtain ⟨g, hp⟩ := PostM.grd hp
    exact ⟨by rw [← hr.length]; exact of_decide_eq_true g, PostM.newT hp hs hr⟩
theorem me_lst {es : List Expr} {ms : Fr → M D} (h : PA X es (tM X w W (RL w) ms)) : PE X (.List es pos) (tM X w W (RD w) fun fr => bnd (ms fr) fun y => match y with
    | .tup ys => bnd (guard (decide (ys.length ≤ sizeLine))) fun _ => alloc (.lst ys)
    | _ => no) :=
  PE.imp (pe_lst h) fun σ H Q h => tA_bnd (f := fun _ ys => bnd (guard (decide (ys.length ≤ sizeLine))) fun _ => alloc (Ob.lst ys)) h fun fr ds vs c hf hs hr hp => by
    obtain ⟨g, hp⟩ := PostM.grd hp
    exact ⟨by rw [← hr.length]; exact of_decide_eq_true g, PostM.allocL hp hs hr⟩
theorem me_idx (hK : w.K = X.K) (ha : PE X a (tM X w W (RD w) ma)) (hb : PE X b (tM X w W (RD w) mb)) (hs : PlainIx b) : PE X (.Subscript a b pos) (tM X w W (RD w) fun fr => bnd (ma fr) fun x => bnd (mb fr) fun y => idxD x y) :=
  PE.imp (pe_ix (ix_D hK) ha hb hs) fun σ H Q h => tM_bnd2 h fun x y v u c s r1 r2 hp => ⟨x, y, c, _, rfl, s, r1, r2, hp⟩
/-- a part of a slice -/
structure MO (X : Cx) (w : Vw) (W : WX) (o : Option Expr) (m : Fr → M D) (t : TO) : Prop where
  run : PO X o t
  rd : ∀ {α β : Type} {R : RR α β} {f : D → M α} {Q : β → Hp → Prop} {σ : L2.St} {fr : Fr} {c : Cf} {P : Option Int → Hp → Prop}, FrR X w fr σ c → SR w c → PostM w R c (bnd (m fr) f) Q (WE W σ) →
    (∀ o c', Mono [] c c' → SR w c' → PostM w R c' (f (ofPart o)) Q (WE W σ) → P o c'.H) → t σ c.H P
theorem mo_none : MO X w W none (fun _ => ret .non) tNoPart := ⟨po_none, fun {_ _ _ _ _ _ _ c _} hf hs hp k => k none c (Mono.refl c) hs hp⟩
end
end MI

set_option Elab.async false
set_option linter.all false
set_option maxRecDepth 100000
set_option maxHeartbeats 4000000
/-! MINI, part 10: slices, attributes, calls. -/
namespace MI
open PySem PySem.Spec PyProof.Rows L2
theorem bnd_assoc {α β γ : Type} (m : M α) (g : α → M β) (f : β → M γ) : bnd (bnd m g) f = bnd m fun x => bnd (g x) f := by
  funext st
  unfold bnd
  cases m st <;> rfl
section
variable {X : Cx} {w : Vw} {W : WX} {σ : L2.St} {H : Hp}
theorem mo_some {e : Expr} {m : Fr → M D} (h : PE X e (tM X w W (RD w) m)) : MO X w W (some e) (fun fr => bnd (m fr) fun x => match x with
    | .int i => ret (.int i)
    | _ => no) (tPart (tM X w W (RD w) m)) := ⟨po_some h, fun {α β R f Q σ fr c P} hf hs hp k => by
  rw [bnd_assoc] at hp
  refine tM_of hf hs (Post.imp hp.bn fun v H' ⟨d, c', e', mo, s', r', hp'⟩ => ?_)
  subst e'
  cases d with
  | int i => exact ⟨i, rep_int.mp r', k (some i) c' mo s' hp'⟩
  | _ => exact False.elim hp'⟩
theorem me_sl {a : Expr} {ma ml mh : Fr → M D} {lo hi : Option Expr} {tl th : TO} {p2 pos : Pos} (hK : w.K = X.K) (ha : PE X a (tM X w W (RD w) ma)) (hl : MO X w W lo ml tl) (hh : MO X w W hi mh th) :
    PE X (.Subscript a (.Slice lo hi none p2) pos) (tM X w W (RD w) fun fr => bnd (ma fr) fun x => bnd (ml fr) fun l => bnd (mh fr) fun h => sliD x l h) :=
  PE.imp (pe_slice (sl_D hK) ha hl.run hh.run) fun σ H Q h => tM_bnd h fun fr x v c hf hs hr hp =>
    hl.rd hf hs hp fun o c1 m1 s1 p1 => hh.rd (hf.mono m1) s1 p1 fun o2 c2 m2 s2 p2 => ⟨x, c2, _, rfl, s2, hr.mono (m1.trans m2), p2⟩

/-! ### what the code may lean on -/
/-- a call of a value that the computation m tells of -/
def RunOk (X : Cx) (w : Vw) (W : WX) (m : List D → M D) (fv : Value) : Prop :=
  ∀ (pins : List (Addr × Obj)) (s : Shared) (σ : L2.St) (vs : List V) (us : List Value) (c : Cf) (ds : List D) (Q : VK), Inv X pins σ c.H s → Vals vs us → SR w c → RepL w c.φ c.H ds vs → (∃ fr, FrR X w fr σ c) →
    PostM w (RD w) c (m ds) Q (WE W σ) → wpAny (model X.prog X.w) X.A (PySem.call fv us) (EP X pins σ Q) X.xe s
structure Sta (G : GP) (n : Nat) (X : Cx) (w : Vw) (W : WX) : Prop where
  hK : w.K = X.K
  calm : X.calm = true
  nd : X.N.Nodup
  un : X.A.units + 64 < cLine
  int : ∀ x i, G.cints.lookup x = some i → ∃ t, X.mg x = some (.int i t)
  str : ∀ x z, G.cstrs.lookup x = some z → ∃ t, X.mg x = some (.str z t)
  fre : ∀ x, x ∈ G.cfree → X.mg x = none
  fun_ : ∀ f x b, G.funs[f]? = some ⟨(x, none), b⟩ → X.mg x = some (.ref (w.fa f)) ∧ PySem.W.keepIn X.K (.ref (w.fa f)) = true
  gcl : ∀ c C, G.cls[c]? = some C → X.mg C.name = some (.ref (w.ca c)) ∧ Cls X.K (w.ca c) ∧ Mk X.K (w.ca c) (w.fa C.init)
  met : ∀ c C m f, G.cls[c]? = some C → C.meths.lookup m = some f → Meth X.K (w.ca c) m (w.fa f)
  noa : ∀ c f, fldOk G c f = true → NoAttr X.K (w.ca c) f
  run : ∀ f, RunOk X w W ((calls G n).1 f) (.ref (w.fa f))
  mke : ∀ c, RunOk X w W (makeD G (calls G n).1 c) (.ref (w.ca c))

/-! ### attributes -/
theorem look_rep {φ : List Addr} {H : Hp} {f : Str} : ∀ {fs : List (Str × D)} {gs : List (Str × V)}, fs.map (·.1) = gs.map (·.1) → RepL w φ H (fs.map (·.2)) (gs.map (·.2)) →
    (∀ d, fs.lookup f = some d → ∃ v, gs.lookup f = some v ∧ Rep w φ H d v) ∧ (fs.lookup f = none → gs.lookup f = none)
  | [], [], _, _ => ⟨fun d h => (by cases h), fun _ => rfl⟩
  | [], _ :: _, h, _ => by cases h
  | _ :: _, [], h, _ => by cases h
  | (a, d) :: fs, (b, v) :: gs, h, r => by
    have h1 : a = b ∧ fs.map (·.1) = gs.map (·.1) := by simpa using h
    obtain ⟨rfl, h2⟩ := h1
    obtain ⟨x, r0, e, h3, h4⟩ := RepL.cons_inv r
    have e : v :: gs.map (·.2) = x :: r0 := e
    injection e with e1 e2
    subst e1 e2
    have ih := look_rep (f := f) h2 h4
    cases q : f == a with
    | true =>
      refine ⟨fun d' h => ?_, fun h => ?_⟩
      · rw [List.lookup_cons, q] at h
        cases h
        exact ⟨v, by rw [List.lookup_cons, q], h3⟩
      · rw [List.lookup_cons, q] at h
        cases h
    | false =>
      refine ⟨fun d' h => ?_, fun h => ?_⟩
      · rw [List.lookup_cons, q] at h
        rw [List.lookup_cons, q]
        exact ih.1 d' h
      · rw [List.lookup_cons, q] at h
        rw [List.lookup_cons, q]
        exact ih.2 h
/-- an instance of the store -/
theorem ins_in {c : Cf} {l : Nat} {k : Nat} {fs : List (Str × D)} {x : V} (s : SR w c) (e : c.st[l]? = some (.ins k fs)) (r : Rep w c.φ c.H (.loc l) x) :
    ∃ a dx gs, x = .ref a ∧ c.φ[l]? = some a ∧ c.H a = some (.ins (w.ca k) dx gs) ∧ RepF w c.φ c.H fs gs := by
  obtain ⟨a, rfl, h1⟩ := rep_loc.mp r
  obtain ⟨dx, gs, h2, h3⟩ := s.ob l _ a e h1
  exact ⟨a, dx, gs, rfl, h1, h2, h3⟩
theorem attr_in {G : GP} {α β : Type} {R : RR α β} {c : Cf} {d : D} {f : Str} {g : D → M α} {x : V} {Q : β → Hp → Prop} {E : XK} (s : SR w c) (r : Rep w c.φ c.H d x) (h : PostM w R c (bnd (attrD G d f) g) Q E) :
    ∃ l k fs y a dx gs v, d = .loc l ∧ c.st[l]? = some (.ins k fs) ∧ x = .ref a ∧ c.φ[l]? = some a ∧ fldOk G k f = true ∧ c.H a = some (.ins (w.ca k) dx gs) ∧ RepF w c.φ c.H fs gs ∧ gs.lookup f = some v ∧ Rep w c.φ c.H y v ∧ PostM w R c (g y) Q E := by
  unfold PostM bnd attrD at h
  cases d with
  | loc l =>
    cases e : c.st[l]? with
    | none => simp only [e] at h; exact False.elim h
    | some o => cases o with
      | ins k fs =>
        simp only [e] at h
        by_cases hf : fldOk G k f = true
        · rw [if_pos hf] at h
          cases e2 : fs.lookup f with
          | none => simp only [e2] at h; exact False.elim h
          | some y =>
            simp only [e2] at h
            obtain ⟨a, dx, gs, rfl, h1, h2, h3⟩ := ins_in s e r
            obtain ⟨v, h4, h5⟩ := (look_rep h3.1 h3.2).1 y e2
            exact ⟨l, k, fs, y, a, dx, gs, v, rfl, e, rfl, h1, hf, h2, h3, h4, h5, h⟩
        · rw [if_neg hf] at h
          exact False.elim h
      | _ => simp only [e] at h; exact False.elim h
  | _ => exact False.elim h
theorem me_attr {G : GP} {n : Nat} {a : Expr} {ma : Fr → M D} {f : Str} {pos : Pos} (S : Sta G n X w W) (ha : PE X a (tM X w W (RD w) ma)) (hb : attributeBase a f X.env (eval a X.env) = eval a X.env) :
    PE X (.Attribute a f pos) (tM X w W (RD w) fun fr => bnd (ma fr) fun x => attrD G x f) :=
  PE.imp (pe_fld ha hb) fun σ H Q h => by
    have h2 : tM X w W (RD w) (fun fr => bnd (ma fr) fun x => bnd (attrD G x f) ret) σ H Q := by
      obtain ⟨fr, c, e, hf, hs, hp⟩ := h
      refine ⟨fr, c, e, hf, hs, ?_⟩
      have e2 : ∀ m : M D, bnd m ret = m := fun m => by
        funext st
        unfold bnd
        cases m st <;> rfl
      simp only [e2]
      exact hp
    refine tM_bnd h2 fun fr x v c hf hs hr hp => ?_
    obtain ⟨l, k, fs, y, a, dx, gs, v', rfl, _, rfl, _, hfd, h1, _, h3, h4, h5⟩ := attr_in hs hr hp
    exact ⟨a, w.ca k, dx, gs, v', rfl, h1, by
      obtain ⟨C, hC, _⟩ : ∃ C, G.cls[k]? = some C ∧ C.flds.contains f = true := by
        unfold fldOk at hfd
        cases e : G.cls[k]? with
        | none => rw [e] at hfd; cases hfd
        | some C => rw [e] at hfd; exact ⟨C, rfl, hfd⟩
      exact (S.gcl k C hC).2.1, S.noa k f hfd, h3, PostM.rt (R := RD w) h5 hs h4⟩

/-! ### calls -/
theorem star_plain {e : Expr} {es : List Expr} {pos : Pos} {env : Env} (h : ∀ x ∈ e :: es, PySem.W.isStarred x = false) : starEach (e :: es) env = (false, eval e env) :: starEach es env ∧ (backTo pos (starEach es env)).any (·.1) = false := by
  have key : ∀ x : Expr, PySem.W.isStarred x = false → ∀ r : List Expr, starEach (x :: r) env = (false, eval x env) :: starEach r env := fun x hx r => by
    cases x <;> first | rfl | cases hx
  refine ⟨key e (h e List.mem_cons_self) es, ?_⟩
  have all : ∀ es : List Expr, (∀ x ∈ es, PySem.W.isStarred x = false) → (backTo pos (starEach es env)).any (·.1) = false := by
    intro es
    induction es with
    | nil => intro _; rfl
    | cons x r ih =>
      intro h
      rw [key x (h x List.mem_cons_self) r]
      have := ih fun y hy => h y (List.mem_cons_of_mem _ hy)
      unfold backTo at this ⊢
      rw [List.map_cons, List.any_cons, this]
      rfl
  exact all es fun x hx => h x (List.mem_cons_of_mem _ hx)
section
variable {G : GP} {n : Nat} {es : List Expr} {ms : Fr → M D} {x : Str} {p pos : Pos}
/-- a call of a value that a name stands for -/
theorem me_callG {u : Value} {m : List D → M D} {e : Expr} (hk : PySem.W.keepIn X.K u = true) (hm : X.mg x = some u) (hg : Gl X x) (hr : RunOk X w W m u) (ha : PA X (e :: es) (tM X w W (RL w) ms)) (hst : ∀ y ∈ e :: es, PySem.W.isStarred y = false) (hdb : (x == ("__debug__" : Str)) = false) :
    PE X (.Call (.Name x p) (e :: es) [] pos) (tM X w W (RD w) fun fr => bnd (ms fr) fun y => match y with
      | .tup ys => m ys
      | _ => no) := by
  refine ⟨fun pins s σ H Q I h => ?_⟩
  have h' := tA_bnd (f := fun _ ys => m ys) h (P := fun vs H1 => ∃ fr ds c, c.H = H1 ∧ FrR X w fr σ c ∧ SR w c ∧ RepL w c.φ c.H ds vs ∧ PostM w (RD w) c (m ds) Q (WE W σ)) fun fr ds vs c hf hs hr hp => ⟨fr, ds, c, rfl, hf, hs, hr, hp⟩
  refine wpAny_Call_Name_kw (ld_glob I hg hm ?_ hdb)
  obtain ⟨s1, s2⟩ := star_plain (pos := pos) (env := X.env) hst
  refine PySem.W.callWith_K (h₀ := X.base) I.ok.mod.kin hk (thn (ha.run pos pins s σ H _ I h') fun us s1 ⟨vs, H1, I1, r, fr, ds, c, e1, hf, hs, hrp, hp⟩ => ⟨I1.kIn, ?_⟩) s1 s2
  subst e1
  exact hr pins s1 σ vs us c ds Q I1 r hs hrp ⟨fr, hf⟩ hp
theorem me_callG0 {u : Value} {m : List D → M D} (hk : PySem.W.keepIn X.K u = true) (hm : X.mg x = some u) (hg : Gl X x) (hr : RunOk X w W m u) (hdb : (x == ("__debug__" : Str)) = false) :
    PE X (.Call (.Name x p) [] [] pos) (tM X w W (RD w) fun fr => bnd (ret (D.tup [])) fun y => match y with
      | .tup ys => m ys
      | _ => no) := by
  refine ⟨fun pins s σ H Q I h => ?_⟩
  obtain ⟨fr, c, rfl, hf, hs, hp⟩ := h
  refine wpAny_Call_Name_kw (ld_glob I hg hm ?_ hdb)
  exact PySem.W.callWith_K0 I.kIn hk (hr pins s σ [] [] c [] Q I .nil hs RepL.nil ⟨fr, hf⟩ hp)
/-- a built-in's call -/
theorem me_bi {b : Bi} {e : Expr} (S : Sta G n X w W) (hg : Gl X (biN b).1) (hf : (biN b).1 ∈ G.cfree) (ha : PA X (e :: es) (tM X w W (RL w) ms)) (hst : ∀ y ∈ e :: es, PySem.W.isStarred y = false) :
    PE X (.Call (.Name (biN b).1 p) (e :: es) [] pos) (tM X w W (RD w) fun fr => bnd (ms fr) fun y => match y with
      | .tup ys => biop b ys
      | _ => no) := by
  obtain ⟨s1, s2⟩ := star_plain (pos := pos) (env := X.env) hst
  have cr := cr_bi S.hK S.calm b
  have key : PE X (.Call (.Name (biN b).1 p) (e :: es) [] pos) (tCB (rBi w (biop b)) (tM X w W (RL w) ms)) := by
    have hv := S.fre _ hf
    cases b <;> first
      | exact pe_callB (id := "len") cr hg hv (by decide +kernel) ha (by decide) (by decide) s1 s2
      | exact pe_callB (id := "max") cr hg hv (by decide +kernel) ha (by decide) (by decide) s1 s2
      | exact pe_callB (id := "min") cr hg hv (by decide +kernel) ha (by decide) (by decide) s1 s2
      | exact pe_callB (id := "any") cr hg hv (by decide +kernel) ha (by decide) (by decide) s1 s2
      | exact pe_callB (id := "all") cr hg hv (by decide +kernel) ha (by decide) (by decide) s1 s2
      | exact pe_callTy (T := "int") cr hg hv (by decide +kernel) ha (by decide) (by decide) s1 s2
      | exact pe_callTy (T := "str") cr hg hv (by decide +kernel) ha (by decide) (by decide) s1 s2
      | exact pe_callTy (T := "tuple") cr hg hv (by decide +kernel) ha (by decide) (by decide) s1 s2
      | exact pe_callTy (T := "list") cr hg hv (by decide +kernel) ha (by decide) (by decide) s1 s2
  exact PE.imp key fun σ H Q h => tA_bnd (f := fun _ ys => biop b ys) h fun fr ds vs c hf hs hr hp => ⟨ds, c, _, rfl, hs, hr, hp⟩
/-- isinstance(a, T) -/
theorem pe_tyN {T : String} (hg : Gl X x) (hm : X.mg x = none) (hv : bootBuiltins x = some (.type T)) (hn : x ≠ "__name__") (hdb : (x == ("__debug__" : Str)) = false) : PE X (.Name x p) (tC (.ty T)) :=
  ⟨fun pins s σ H Q I h => ld_blt I hg hm hv ⟨.ty T, H, I, rfl, h⟩ hn hdb⟩
theorem me_isi {T : Ty} {a : Expr} {ma : Fr → M D} {p1 : Pos} (S : Sta G n X w W) (hg : Gl X "isinstance") (hf : ("isinstance" : Str) ∈ G.cfree) (hT : ownTy T = false) (hgT : Gl X (Str.ofString (tyN T))) (hfT : Str.ofString (tyN T) ∈ G.cfree) (ha : PE X a (tM X w W (RD w) ma)) (hst : PySem.W.isStarred a = false) :
    PE X (.Call (.Name "isinstance" p) [a, .Name (Str.ofString (tyN T)) p1] [] pos) (tM X w W (RD w) fun fr => bnd (ma fr) fun x => isiD x T) := by
  have hst2 : ∀ y ∈ [a, .Name (Str.ofString (tyN T)) p1], PySem.W.isStarred y = false := fun y hy => by
    rcases List.mem_cons.mp hy with rfl | hy
    · exact hst
    · rcases List.mem_cons.mp hy with rfl | hy
      · rfl
      · cases hy
  obtain ⟨s1, s2⟩ := star_plain (pos := pos) (env := X.env) hst2
  have hv := S.fre _ hfT
  have ty : PE X (.Name (Str.ofString (tyN T)) p1) (tC (.ty (tyN T))) := by
    cases T <;> first | (cases hT; done) | exact pe_tyN hgT hv (by decide +kernel) (by decide) (by decide)
  have key := pe_callB (id := "isinstance") (p := p) (pos := pos) (cr_isi S.hK T) hg (S.fre _ hf) (by decide +kernel) (pa_cons ha (pa_cons ty pa_nil) s1) (by decide) (by decide) s1 s2
  exact PE.imp key fun σ H Q h => tM_bnd h fun fr d v c hf hs hr hp => ⟨d, v, c, _, rfl, rfl, hs, hr, hp⟩
end
end
end MI

set_option Elab.async false
set_option linter.all false
set_option maxRecDepth 100000
set_option maxHeartbeats 4000000
/-! MINI, part 11: methods. -/
namespace MI
open PySem PySem.Spec PyProof.Rows L2
section
variable {X : Cx} {w : Vw} {W : WX} {σ : L2.St} {H : Hp}
/-- a computation whose end is known -/
theorem tM_at {α β : Type} {R : RR α β} {m : Fr → M α} {fr : Fr} {c : Cf} {d : α} {st' : Store} (hf : FrR X w fr σ c) (hs : SR w c) (e : m fr c.st = .ok d st') {P : β → Hp → Prop}
    (k : ∀ (φ' : List Addr) (H' : Hp) (v : β), Mono [] c ⟨φ', H', st'⟩ → SR w ⟨φ', H', st'⟩ → R φ' H' d v → P v H') : tM X w W R m σ c.H P := ⟨fr, c, rfl, hf, hs, by
  unfold PostM
  rw [e]
  exact k⟩
theorem tM_ex {α β γ δ : Type} {R : RR α β} {R' : RR γ δ} {m : Fr → M α} {f : α → M γ} {fr : Fr} {c : Cf} {x : Ex} {st' : Store} {Q : δ → Hp → Prop} (hf : FrR X w fr σ c) (hs : SR w c) (e : m fr c.st = .ex x st') {P : β → Hp → Prop}
    (h : PostM w R' c (bnd (m fr) f) Q (WE W σ)) : tM X w W R m σ c.H P := ⟨fr, c, rfl, hf, hs, by
  unfold PostM bnd at h
  unfold PostM
  rw [e] at h ⊢
  exact h⟩
theorem PostM.at_ {α β γ : Type} {R : RR α β} {m : M γ} {f : γ → M α} {c : Cf} {d : γ} {st' : Store} {Q : β → Hp → Prop} {E : XK} (h : PostM w R c (bnd m f) Q E) (e : m c.st = .ok d st') : Post w R c (f d st') Q E := by
  unfold PostM bnd at h
  rw [e] at h
  exact h
theorem PostM.no_ {α β γ : Type} {R : RR α β} {m : M γ} {f : γ → M α} {c : Cf} {Q : β → Hp → Prop} {E : XK} (h : PostM w R c (bnd m f) Q E) (e : m c.st = .no) : False := by
  unfold PostM bnd at h
  rw [e] at h
  exact h

/-! ### of built-in types -/
structure BmF (X : Cx) (w : Vw) (T : String) (m : Str) (f : D → List D → M D) : Prop where
  f : ∃ id, PlainAttrs T ∧ Slot T m id ∧ typeOf (.builtin id) = pure (.type "method_descriptor") ∧ MtR X id (rMt w f)
theorem sm_f (hK : w.K = X.K) {m : Str} {k : Sm} (h : smOf m = some k) : BmF X w "str" m (strMD k) := by
  unfold smOf at h
  split at h
  · cases h
    rename_i e
    subst e
    exact ⟨_, PySem.F.plainAttrs_str, PySem.F.slot_str_upper, PySem.F.type_str_upper, mt_upperD⟩
  · split at h
    · cases h
      rename_i e
      subst e
      exact ⟨_, PySem.F.plainAttrs_str, PySem.F.slot_str_split, PySem.F.type_str_split, mt_splitD⟩
    · split at h
      · cases h
        rename_i e
        subst e
        exact ⟨_, PySem.F.plainAttrs_str, PySem.F.slot_str_join, PySem.F.type_str_join, mt_joinD hK⟩
      · cases h
theorem lm_f {m : Str} {k : Lm'} (h : lmOf m = some k) : BmF X w "list" m (lstMD k) := by
  unfold lmOf at h
  split at h
  · cases h
    rename_i e
    subst e
    exact ⟨_, PySem.F.plainAttrs_list, PySem.F.slot_list_append, PySem.F.type_list_append, mt_appendD⟩
  · split at h
    · cases h
      rename_i e
      subst e
      exact ⟨_, PySem.F.plainAttrs_list, PySem.F.slot_list_extend, PySem.F.type_list_extend, mt_extendD⟩
    · split at h
      · cases h
        rename_i e
        subst e
        exact ⟨_, PySem.F.plainAttrs_list, PySem.F.slot_list_pop, PySem.F.type_list_pop, mt_popD⟩
      · cases h
/-- what the syntax of o.m(es) must be -/
structure MSyn (X : Cx) (o : Expr) (m : Str) (apos : Pos) (es : List Expr) (pos : Pos) : Prop where
  base : attributeBase o m X.env (eval o X.env) = eval o X.env
  line : (apos.endLine == pos.line) = true
  star : ∀ y ∈ es, PySem.W.isStarred y = false
  few : es.length < 29
  ht : ∃ pl : Sem Bool, eval (.Call (.Attribute o m apos) es [] pos) X.env = (do
      let ov ← eval o X.env
      standAt apos.atName
      let (f, first) ← holding [ov] (getMethod ov m pl)
      callWith pos f first (backTo pos (starEach es X.env)) (backToKw pos (keywordEach [] X.env)))
theorem few_ok {es : List Expr} {cpos : Pos} {env : Env} (h : ∀ y ∈ es, PySem.W.isStarred y = false) (hl : es.length < 29) :
    ((backTo cpos (starEach es env)).all (fun x => !x.1) && (backToKw cpos (keywordEach [] env)).all (fun x => x.1.isSome)
      && decide (es.length + ([] : List Keyword).length + (if ([] : List Keyword).isEmpty then 0 else 1) < 30)) = true := by
  have all : ∀ es : List Expr, (∀ x ∈ es, PySem.W.isStarred x = false) → (backTo cpos (starEach es env)).all (fun x => !x.1) = true := by
    intro es
    induction es with
    | nil => intro _; rfl
    | cons x r ih =>
      intro h
      rw [(star_plain (pos := cpos) (env := env) h).1]
      have := ih fun y hy => h y (List.mem_cons_of_mem _ hy)
      unfold backTo at this ⊢
      rw [List.map_cons, List.all_cons, this]
      rfl
  rw [all es h]
  simp [backToKw, keywordEach]
  omega
theorem bnd_ret {α : Type} (m : M α) : bnd m ret = m := by
  funext st
  unfold bnd
  cases m st <;> rfl
/-- the value of a receiver is known: a built-in's method, with arguments -/
theorem meth_blt {o : Expr} {m : Str} {apos pos : Pos} {e : Expr} {es : List Expr} {mo ms : Fr → M D} {T : String} {f : D → List D → M D} {d : D} {st' : Store} {fr : Fr} {c : Cf} {Q : VK} {pins : List (Addr × Obj)} {s : Shared} {g : List D → M D}
    (Y : MSyn X o m apos (e :: es) pos) (ho : PE X o (tM X w W (RD w) mo)) (ha : PA X (e :: es) (tM X w W (RL w) ms)) (B : BmF X w T m f) (I : Inv X pins σ c.H s) (hf : FrR X w fr σ c) (hs : SR w c) (e1 : mo fr c.st = .ok d st')
    (hty : ∀ (c' : Cf) v, c'.st = st' → SR w c' → Rep w c'.φ c'.H d v → tyV X.K T v c'.H)
    (hp : Post w (RD w) c ((bnd (ms fr) fun y => match y with
      | .tup ys => g ys
      | _ => no) st') Q (WE W σ))
    (hk : ∀ (c0 c' : Cf) ds, c0.st = st' → Mono [] c0 c' → PostM w (RD w) c' (g ds) Q (WE W σ) → PostM w (RD w) c' (f d ds) Q (WE W σ)) :
    wpAny (model X.prog X.w) X.A (eval (.Call (.Attribute o m apos) (e :: es) [] pos) X.env) (EP X pins σ Q) X.xe s := by
  obtain ⟨s1, s2⟩ := star_plain (pos := pos) (env := X.env) Y.star
  obtain ⟨id, b1, b2, b3, b4⟩ := B.f
  refine (pe_bm b1 b2 b3 b4 ho ha Y.base (few_ok Y.star Y.few) Y.line s1 s2).run pins s σ c.H Q I ?_
  refine tM_at hf hs e1 fun φ' H' v mo' s' r' => ⟨hty ⟨φ', H', st'⟩ v rfl s' r', ?_⟩
  have hp2 : PostM w (RD w) ⟨φ', H', st'⟩ (bnd (ms fr) fun y => match y with
    | .tup ys => g ys
    | _ => no) Q (WE W σ) := Post.later mo' hp
  exact tM_of (R := RL w) (c := ⟨φ', H', st'⟩) (hf.mono mo') s' (Post.imp (hp2.bn (R' := RL w)) fun vs H2 ⟨y, c2, e2, m2, s2', ⟨ds, e3, r2⟩, hp3⟩ => by
    subst e2 e3
    exact ⟨d, ds, c2, _, rfl, s2', Rep.mono m2 r', r2, hk ⟨φ', H', st'⟩ c2 ds rfl m2 hp3⟩)
theorem meth_blt0 {o : Expr} {m : Str} {apos pos : Pos} {mo : Fr → M D} {T : String} {f : D → List D → M D} {d : D} {st' : Store} {fr : Fr} {c : Cf} {Q : VK} {pins : List (Addr × Obj)} {s : Shared} {g : M D}
    (Y : MSyn X o m apos [] pos) (ho : PE X o (tM X w W (RD w) mo)) (B : BmF X w T m f) (I : Inv X pins σ c.H s) (hf : FrR X w fr σ c) (hs : SR w c) (e1 : mo fr c.st = .ok d st')
    (hty : ∀ (c' : Cf) v, c'.st = st' → SR w c' → Rep w c'.φ c'.H d v → tyV X.K T v c'.H)
    (hp : Post w (RD w) c (g st') Q (WE W σ))
    (hk : ∀ (c' : Cf), c'.st = st' → PostM w (RD w) c' g Q (WE W σ) → PostM w (RD w) c' (f d []) Q (WE W σ)) :
    wpAny (model X.prog X.w) X.A (eval (.Call (.Attribute o m apos) [] [] pos) X.env) (EP X pins σ Q) X.xe s := by
  obtain ⟨id, b1, b2, b3, b4⟩ := B.f
  refine (pe_bm0 b1 b2 b3 b4 ho Y.base Y.line).run pins s σ c.H Q I ?_
  refine tM_at hf hs e1 fun φ' H' v mo' s' r' => ⟨hty ⟨φ', H', st'⟩ v rfl s' r', d, [], ⟨φ', H', st'⟩, _, rfl, s', r', RepL.nil, hk ⟨φ', H', st'⟩ rfl (Post.later mo' hp)⟩
theorem ty_str {c : Cf} {z : Str} {v : V} (r : Rep w c.φ c.H (.str z) v) : tyV X.K "str" v c.H := by
  rw [rep_str.mp r]
  rfl
theorem ty_lst {c : Cf} {l : Nat} {us : List D} {v : V} (s : SR w c) (e : c.st[l]? = some (.lst us)) (r : Rep w c.φ c.H (.loc l) v) : tyV X.K "list" v c.H := by
  obtain ⟨a, rfl, h1⟩ := rep_loc.mp r
  obtain ⟨xs, h2, _⟩ := s.ob l _ a e h1
  exact .inl ⟨rfl, xs, SqL.of h2⟩
theorem knd_lst {ex : List Nat} {c0 c' : Cf} {l : Nat} {us : List D} (m : Mono ex c0 c') (e : c0.st[l]? = some (.lst us)) : ∃ us', c'.st[l]? = some (.lst us') := by
  obtain ⟨o', e', k⟩ := m.knd l _ e
  cases o' with
  | lst us' => exact ⟨us', e'⟩
  | _ => exact False.elim k
theorem knd_ins {ex : List Nat} {c0 c' : Cf} {l : Nat} {k : Nat} {us : List (Str × D)} (m : Mono ex c0 c') (e : c0.st[l]? = some (.ins k us)) : ∃ us', c'.st[l]? = some (.ins k us') := by
  obtain ⟨o', e', q⟩ := m.knd l _ e
  cases o' with
  | ins k' us' =>
    have q : k = k' := q
    subst q
    exact ⟨us', e'⟩
  | _ => exact False.elim q
/-- which method it is -/
theorem methOk_in {G : GP} {d : D} {m : Str} {α β : Type} {R : RR α β} {c : Cf} {f : Unit → M α} {st' : Store} {Q : β → Hp → Prop} {E : XK} (h : Post w R c (bnd (methOk G d m) f st') Q E) :
    Post w R c (f () st') Q E ∧ ((∃ z k, d = .str z ∧ smOf m = some k) ∨ (∃ l us k, d = .loc l ∧ st'[l]? = some (.lst us) ∧ lmOf m = some k) ∨
      ∃ l k fs C f, d = .loc l ∧ st'[l]? = some (.ins k fs) ∧ G.cls[k]? = some C ∧ fs.lookup m = none ∧ C.meths.lookup m = some f) := by
  unfold bnd at h
  cases d with
  | str z =>
    unfold methOk at h
    cases e : smOf m with
    | none => simp only [e] at h; exact False.elim h
    | some k =>
      simp only [e] at h
      exact ⟨h, .inl ⟨z, k, rfl, rfl⟩⟩
  | loc l =>
    unfold methOk at h
    cases e : st'[l]? with
    | none => simp only [e] at h; exact False.elim h
    | some o => cases o with
      | lst us =>
        simp only [e] at h
        cases e2 : lmOf m with
        | none => simp only [e2] at h; exact False.elim h
        | some k =>
          simp only [e2] at h
          exact ⟨h, .inr (.inl ⟨l, us, k, rfl, e, rfl⟩)⟩
      | ins k fs =>
        simp only [e] at h
        cases e2 : G.cls[k]? with
        | none => simp only [e2] at h; exact False.elim h
        | some C =>
          simp only [e2] at h
          cases e3 : fs.lookup m with
          | some y => simp only [e3] at h; exact False.elim h
          | none => cases e4 : C.meths.lookup m with
            | none => simp only [e3, e4] at h; exact False.elim h
            | some f =>
              simp only [e3, e4] at h
              exact ⟨h, .inr (.inr ⟨l, k, fs, C, f, rfl, e, e2, e3, e4⟩)⟩
      | _ => simp only [e] at h; exact False.elim h
  | _ => exact False.elim h
/-- o.m(e, ..) -/
theorem me_meth {G : GP} {n : Nat} {o : Expr} {m : Str} {apos pos : Pos} {e : Expr} {es : List Expr} {mo ms : Fr → M D} (S : Sta G n X w W) (Y : MSyn X o m apos (e :: es) pos) (ho : PE X o (tM X w W (RD w) mo)) (ha : PA X (e :: es) (tM X w W (RL w) ms)) :
    PE X (.Call (.Attribute o m apos) (e :: es) [] pos) (tM X w W (RD w) fun fr => bnd (mo fr) fun x => bnd (methOk G x m) fun _ => bnd (ms fr) fun y => match y with
      | .tup ys => methD G (calls G n).1 x m ys
      | _ => no) := by
  refine ⟨fun pins s σ H Q I h => ?_⟩
  obtain ⟨fr, c, rfl, hf, hs, hp⟩ := h
  obtain ⟨pl, ht⟩ := Y.ht
  cases e1 : mo fr c.st with
  | no => exact (hp.no_ e1).elim
  | ex x st' => exact PySem.W.methodCall_KW (pl := pl) (thn (ho.run pins s σ c.H (fun _ _ => False) I (tM_ex hf hs e1 hp)) fun u s1 ⟨_, _, _, _, z⟩ => z.elim) ht
  | ok d st' =>
    obtain ⟨hq, z | z | z⟩ := methOk_in (hp.at_ e1)
    · obtain ⟨z, k, rfl, e2⟩ := z
      exact meth_blt Y ho ha (sm_f S.hK e2) I hf hs e1 (fun c' v _ _ r => ty_str r) hq fun c0 c' ds _ _ h => by
        unfold methD at h
        simp only [e2] at h
        exact h
    · obtain ⟨l, us, k, rfl, e2, e3⟩ := z
      exact meth_blt Y ho ha (lm_f e3) I hf hs e1 (fun c' v e4 s' r => ty_lst s' (by rw [e4]; exact e2) r) hq fun c0 c' ds e4 mo' h => by
        obtain ⟨us', e5⟩ := knd_lst mo' (by rw [e4]; exact e2)
        unfold PostM methD at h
        simp only [e5, e3] at h
        unfold PostM lstMD
        simp only [e5]
        exact h
    · obtain ⟨l, k, fs, C, f, rfl, e2, e3, e4, e5⟩ := z
      obtain ⟨t1, t2⟩ := star_plain (pos := pos) (env := X.env) Y.star
      have M := S.met k C m f e3 e5
      refine PySem.W.methodCall_KW (pl := pl) (thn (ho.run pins s σ c.H _ I (tM_at hf hs e1 fun φ' H' v mo' s' r' => (show (∃ c1 : Cf, c1.H = H' ∧ c1.st = st' ∧ SR w c1 ∧ Rep w c1.φ c1.H (.loc l) v ∧ Mono [] c c1) from ⟨⟨φ', H', st'⟩, rfl, rfl, s', r', mo'⟩))) fun u s1 ⟨x, H1, I1, rx, c1, e6, e7, hs1, r1, m1⟩ => ?_) ht
      subst e6
      have e2' : c1.st[l]? = some (.ins k fs) := by rw [e7]; exact e2
      obtain ⟨a, dx, gs, rfl, h1, h2, h3⟩ := ins_in hs1 e2' r1
      obtain rfl : u = Value.ref a := rx
      refine getmeth_ok I1 h2 (S.gcl k C e3).2.1 M ((look_rep h3.1 h3.2).2 e4) ?_
      have hp2 : PostM w (RD w) c1 (bnd (ms fr) fun y => match y with
        | .tup ys => methD G (calls G n).1 (.loc l) m ys
        | _ => no) Q (WE W σ) := by
        unfold PostM
        rw [e7]
        exact Post.later m1 hq
      refine PySem.W.callWith_K (first := [.ref a]) (h₀ := X.base) I.ok.mod.kin M.kp (thn (ha.run pos pins _ σ c1.H _ I1 (tM_of (R := RL w) (hf.mono m1) hs1 (hp2.bn (R' := RL w)))) fun us s2 ⟨vs, H2, I2, r, y, c2, e8, m2, s2', ⟨ds, e9, r2⟩, hp3⟩ => ⟨I2.kIn, ?_⟩) t1 t2
      subst e8 e9
      obtain ⟨fs', e10⟩ := knd_ins m2 e2'
      refine S.run f pins s2 σ (.ref a :: vs) (.ref a :: us) c2 (.loc l :: ds) Q I2 (.cons rfl r) s2' (.cons (r1.mono m2) r2) ⟨fr, hf.mono (m1.trans m2)⟩ ?_
      unfold PostM methD at hp3
      simp only [e10, e3, e5] at hp3
      exact hp3
/-- o.m() -/
theorem me_meth0 {G : GP} {n : Nat} {o : Expr} {m : Str} {apos pos : Pos} {mo : Fr → M D} (S : Sta G n X w W) (Y : MSyn X o m apos [] pos) (ho : PE X o (tM X w W (RD w) mo)) :
    PE X (.Call (.Attribute o m apos) [] [] pos) (tM X w W (RD w) fun fr => bnd (mo fr) fun x => bnd (methOk G x m) fun _ => bnd (ret (D.tup [])) fun y => match y with
      | .tup ys => methD G (calls G n).1 x m ys
      | _ => no) := by
  refine ⟨fun pins s σ H Q I h => ?_⟩
  obtain ⟨fr, c, rfl, hf, hs, hp⟩ := h
  obtain ⟨pl, ht⟩ := Y.ht
  cases e1 : mo fr c.st with
  | no => exact (hp.no_ e1).elim
  | ex x st' => exact PySem.W.methodCall_KW (pl := pl) (thn (ho.run pins s σ c.H (fun _ _ => False) I (tM_ex hf hs e1 hp)) fun u s1 ⟨_, _, _, _, z⟩ => z.elim) ht
  | ok d st' =>
    obtain ⟨hq, z | z | z⟩ := methOk_in (hp.at_ e1)
    · obtain ⟨z, k, rfl, e2⟩ := z
      exact meth_blt0 (g := methD G (calls G n).1 (.str z) m []) Y ho (sm_f S.hK e2) I hf hs e1 (fun c' v _ _ r => ty_str r) hq fun c' _ h => by
        unfold methD at h
        simp only [e2] at h
        exact h
    · obtain ⟨l, us, k, rfl, e2, e3⟩ := z
      exact meth_blt0 (g := methD G (calls G n).1 (.loc l) m []) Y ho (lm_f e3) I hf hs e1 (fun c' v e4 s' r => ty_lst s' (by rw [e4]; exact e2) r) hq fun c' e4 h => by
        have e5 : c'.st[l]? = some (.lst us) := by rw [e4]; exact e2
        unfold PostM methD at h
        simp only [e5, e3] at h
        unfold PostM lstMD
        simp only [e5]
        exact h
    · obtain ⟨l, k, fs, C, f, rfl, e2, e3, e4, e5⟩ := z
      have M := S.met k C m f e3 e5
      refine PySem.W.methodCall_KW (pl := pl) (thn (ho.run pins s σ c.H _ I (tM_at hf hs e1 fun φ' H' v mo' s' r' => (show (∃ c1 : Cf, c1.H = H' ∧ c1.st = st' ∧ SR w c1 ∧ Rep w c1.φ c1.H (.loc l) v ∧ Mono [] c c1) from ⟨⟨φ', H', st'⟩, rfl, rfl, s', r', mo'⟩))) fun u s1 ⟨x, H1, I1, rx, c1, e6, e7, hs1, r1, m1⟩ => ?_) ht
      subst e6
      have e2' : c1.st[l]? = some (.ins k fs) := by rw [e7]; exact e2
      obtain ⟨a, dx, gs, rfl, h1, h2, h3⟩ := ins_in hs1 e2' r1
      obtain rfl : u = Value.ref a := rx
      refine getmeth_ok I1 h2 (S.gcl k C e3).2.1 M ((look_rep h3.1 h3.2).2 e4) ?_
      refine PySem.W.callWith_K0 (first := [.ref a]) I1.kIn M.kp (S.run f pins s1 σ [.ref a] [.ref a] c1 [.loc l] Q I1 (.cons rfl .nil) hs1 (.cons r1 .nil) ⟨fr, hf.mono m1⟩ ?_)
      have hp3 : PostM w (RD w) c1 (methD G (calls G n).1 (.loc l) m []) Q (WE W σ) := by
        unfold PostM
        rw [e7]
        exact Post.later m1 hq
      unfold PostM methD at hp3
      simp only [e2', e3, e5] at hp3
      exact hp3
end
end MI

set_option Elab.async false
set_option linter.all false
set_option maxRecDepth 100000
set_option maxHeartbeats 4000000
/-! MINI, part 12: exceptions in the air, out of a comprehension's block. -/
namespace MI
open PySem PySem.Spec PyProof.Rows L2
/-- an exception over a context, its frame at L -/
structure Air (X : Cx) (L : Addr) (W : WX) (a : Addr) (s' : Shared) (B : Heap) (sI : Shared) (pins : List (Addr × Obj)) (σ : L2.St) (H : Hp) (cls : Value) (d : Option Addr) : Prop where
  inv : Inv X pins σ H sI
  gnd : ∀ b o, sI.heap.get? b = some o → b ∉ frs X.stack → B.get? b = some o
  up : sI.heap.UpToSlots s'.heap
  sky : Sky B X.stack a (L2N.Zn cls d) L s'.heap
  na : H a = none
  os : s'.os = sI.os
  ag : AllBare s'.gens
  wi : W cls d σ H
def XEL (X : Cx) (L : Addr) (W : WX) (u : Value) (s' : Shared) : Prop := ∃ a B sI pins σ H cls d, u = .ref a ∧ Air X L W a s' B sI pins σ H cls d
/-- what the context wants of exceptions is had by W -/
structure Thr (X : Cx) (L : Addr) (W : WX) : Prop where
  top : ∃ e o, X.stack = e :: o ∧ e.frame = some L
  fr : X.env.frame = some L
  tk : ∀ u s', XEL X L W u s' → X.xe u s'
theorem thr_of {X : Cx} {W : WX} (hs : X.stack = X.env :: X.outer) (hf : X.env.frame = some X.env.locals) (t : L2N.Takes X W) : Thr X X.env.locals W :=
  ⟨⟨_, _, hs, hf⟩, hf, fun u s' ⟨a, B, sI, pins, σ, H, cls, d, e, A⟩ => t u s' ⟨a, B, sI, pins, σ, H, cls, d, e, A.inv, A.gnd, A.up, A.sky, A.na, A.os, A.ag, A.wi⟩⟩
theorem takes_thr {X : Cx} {W : WX} {L : Addr} (hL : L = X.env.locals) (t : Thr X L W) : L2N.Takes X W := fun u s' ⟨a, B, sI, pins, σ, H, cls, d, e, h1, h2, h3, h4, h5, h6, h7, h8⟩ => by
  subst hL
  exact t.tk u s' ⟨a, B, sI, pins, σ, H, cls, d, e, h1, h2, h3, h4, h5, h6, h7, h8⟩
theorem rawInt_ne {L : Addr} : Value.none ≠ rawInt L := by
  unfold rawInt
  exact fun z => by cases z
/-- in flight here, so in flight there -/
theorem sky_fly {B B' : Heap} {l l' : List Env} {a L : Addr} {Z Z' : Obj → Prop} {h : Heap} (x : Sky B l a Z L h) (f : HandSPX.FlyingZ B' l' a Z' h) : HandSPX.FlyingZ B l a Z h := by
  obtain ⟨_, _, _, oe, vs, T, oT, ts, he, _, hd, h1, _, _, hT, hdT, h3⟩ := f
  rcases x with ⟨_, _, _, oe', vs', he', _, hd', h1'⟩ | x | x
  · rw [he] at he'
    cases he'
    rw [hd] at hd'
    cases hd'
    rw [h1] at h1'
    cases h1'
  · exact x
  · obtain ⟨_, _, _, oe', vs', T', oT', ts', he', _, hd', h1', _, _, hT', hdT', h3'⟩ := x
    rw [he] at he'
    cases he'
    rw [hd] at hd'
    cases hd'
    rw [h1] at h1'
    cases h1'
    rw [hT] at hT'
    cases hT'
    rw [hdT] at hdT'
    cases hdT'
    rw [h3] at h3'
    exact absurd (Option.some.inj h3') rawInt_ne
section
variable {X : Cx} {pins : List (Addr × Obj)} {σ : L2.St} {H : Hp} {s s' : Shared} {W : WX} {L : Addr}
/-- a call's exception -/
theorem XEL.of_call {E : XK} (I : Inv X pins σ H s) (hW : ∀ cls d H', E cls d H' → W cls d σ H') {u : Value} (c : L2N.CX X.prog X.w X.stack H s E u s') : XEL X L W u s' := by
  obtain ⟨a, B, sI, p, σ1, H1, cls, d, e, h1, h2, h3, h4, h5, h6, h7, h8⟩ := L2N.XE.of_call I hW c
  obtain ⟨a', B', H', cls', d', e', f, _⟩ := c
  rw [e] at e'
  cases e'
  exact ⟨a, B, sI, p, σ1, H1, cls, d, e, h1, h2, h3, .inr (.inl (sky_fly h4 f)), h5, h6, h7, h8⟩
theorem Thr.call {E : XK} (t : Thr X L W) (I : Inv X pins σ H s) (hW : ∀ cls d H', E cls d H' → W cls d σ H') {u : Value} (c : L2N.CX X.prog X.w X.stack H s E u s') : X.xe u s' := t.tk _ _ (XEL.of_call I hW c)

/-! ### out of a block -/
/-- what is wanted of an exception in a comprehension's block -/
abbrev blkE (X : Cx) (ce : Env) : Value → Shared → Prop := notedBy (model X.prog X.w) X.A ce (CompFails (model X.prog X.w) X.A X.xe ce)
abbrev Blk (X : Cx) (s : Shared) (H : Hp) (scope : Scope) (ce : Env) (fp : List Addr) : Cx := (X.blk s H scope ce fp).wish (blkE X ce)
/-- noted by the frame -/
theorem noted_held {M : Model} {A : Around} {E1 : Value → Shared → Prop} {B : Heap} {e ce : Env} {o : List Env} {a : Addr} {Z : Obj → Prop} {Q : Unit → Shared → Prop} (hZ : PXN.Steady1 Z) (hfr : A.frames = some (e :: o)) (hf : e.frame = some L) (hc : ce.frame = e.frame)
    (x : Sky B (e :: o) a Z L s.heap) (hQ : ∀ h', HandSPX.HeldZ B (e :: o) a Z L h' → s.heap.UpToSlots h' → Q () { s with heap := h' }) : wpAny M A (noteFrame (.ref a) ce) Q E1 s := by
  rw [noteFrame_env _ hc]
  rcases x with ⟨hB, hn, hl, oe, vs, he, hz, hd, h1⟩ | fl | hh
  · exact PXN.look_newZ hZ hfr hl hf he hB hn hd h1 hz hQ
  · exact PXN.looks_onZ hZ hfr hf fl hQ
  · exact HandSPX.againZ hf hh.2.2.2 (hQ s.heap hh (Heap.UpToSlots.refl _))
/-- without the object at C -/
theorem held_less {B B' h h' : Heap} {l : List Env} {a C : Addr} {Z : Obj → Prop} {m m' : Str → Option Value} (hh : HandSPX.HeldZ B l a Z L h) (hn : h.Ns C m) (hn' : h'.Ns C m') (sb : Heap.SameBut C h h')
    (b1 : ∀ b, b ≠ C → B'.get? b = B.get? b) (b2 : B'.get? C = none) : HandSPX.HeldZ B' l a Z L h' := by
  obtain ⟨st, na, ff, oe, vs, T, oT, ts, he, hz, hd, h1, nT, Te, hT, hdT, h3⟩ := hh
  obtain ⟨oC, es, ep, hC, dC, _⟩ := hn
  have neC : ∀ b ob xs, h.get? b = some ob → ob.data = .fields xs → b ≠ C := fun b ob xs e d z => by
    rw [z, hC] at e
    cases e
    rw [dC] at d
    cases d
  have ea : a ≠ C := neC _ _ _ he hd
  have eT : T ≠ C := neC _ _ _ hT hdT
  have less : ∀ b, B.get? b = none → B'.get? b = none := fun b e => by
    by_cases q : b = C
    · rw [q]; exact b2
    · rw [b1 b q]; exact e
  refine ⟨fun b ob e => ?_, less a na, ?_, oe, vs, T, oT, ts, (sb.2 a ea).trans he, hz, hd, h1, less T nT, Te, (sb.2 T eT).trans hT, hdT, h3⟩
  · have q : b ≠ C := fun z => by rw [z, b2] at e; cases e
    rw [b1 b q] at e
    exact (sb.2 b q).trans (st b ob e)
  · exact funFrames_none (Heap.FunFrames.sameBut sb hn' ff) fun b hb => by
      refine less b ?_
      exact (Heap.FunFrames.mem ff hb).1
theorem thr_blk {H3 : Hp} {s3 : Shared} {scope : Scope} {ce : Env} {fp : List Addr} (t : Thr X L W) (I3 : Inv X pins σ H3 s3) (cL : ce.locals = s3.heap.objs.size) (cf : ce.frame = X.env.frame) (hfp : ∀ b ∈ fp, FpOk X pins H3 b ∧ b < s3.heap.objs.size) :
    Thr (Blk X s3 H3 scope ce fp) L (fun cls d _ H => W cls d σ H) := by
  obtain ⟨e, o, hs, hf⟩ := t.top
  refine ⟨t.top, cf.trans t.fr, ?_⟩
  rintro u s' ⟨a, B, sI, pb, σb, H, cls, d, rfl, A⟩
  have hfr : X.A.frames = some (e :: o) := by rw [I3.ok.frames, hs]
  have sky : Sky B (e :: o) a (L2N.Zn cls d) L s'.heap := hs ▸ A.sky
  have nC : H ce.locals = none := A.inv.free
  refine noted_held L2N.Zn.steady hfr hf (cf.trans (t.fr.trans hf.symm)) sky fun h1 hh up1 => ?_
  obtain ⟨m, hn, _⟩ := A.inv.loc
  have hnC : h1.Ns ce.locals m := (A.up.trans up1).ns hn
  refine ⟨m, hnC, fun h2 m2 hn2 sb => ?_⟩
  obtain ⟨B', b1, b2⟩ := restrict B fun b => decide (b ≠ ce.locals)
  obtain ⟨G, g1, g2⟩ := restrict sI.heap fun b => decide (b ≠ ce.locals)
  have b1 : ∀ b, b ≠ ce.locals → B'.get? b = B.get? b := fun b q => b1 b (by simpa using q)
  have b2 : B'.get? ce.locals = none := b2 _ (by simp)
  have g1 : ∀ b, b ≠ ce.locals → G.get? b = sI.heap.get? b := fun b q => g1 b (by simpa using q)
  have g2 : G.get? ce.locals = none := g2 _ (by simp)
  have gn : ∀ b ob, G.get? b = some ob → b ≠ ce.locals := fun b ob q z => by rw [z, g2] at q; cases q
  have hh2 := held_less hh hnC hn2 sb b1 b2
  obtain ⟨_, _, _, oe, vs, T, oT, ts, he, hz, hd, h1', _⟩ := id hh2
  unfold PySem.passOn
  refine wpAny_bind (wpAny_field he hd h1' ?_)
  rw [if_neg (show ¬ ((Value.ref T == Value.none) = true) from by simp), cf, t.fr]
  refine wpAny_bind (HandSPX.setFlight_onZ hh2 fun h4 hh4 up4 => wpAny_throw (t.tk _ _ ?_))
  have old : ∀ b ob, s3.heap.get? b = some ob → b ≠ ce.locals := fun b ob q z => by
    have := Heap.lt_size q
    rw [z, cL] at this
    exact Nat.lt_irrefl _ this
  have u := A.inv.base
  refine ⟨a, B', { sI with heap := G }, pins, σ, H, cls, d, rfl, ?_, fun b ob q hb => ?_, fun b ob q hnf => ?_, ?_, A.na, A.os, A.ag, A.wi⟩
  · refine I3.call' (ch := fp) A.inv.os ⟨fun b ob q n f x => ?_, fun b ob q n f x => ?_, fun b ob q n x => u.free b ob q n x, fun b ob q x => ?_, u.tups, u.frzs, u.tbls⟩ (fun b ob q => ?_) A.inv.bare fun b hb => ⟨(hfp b hb).1.2.2.2.1, (hfp b hb).1.2.1, (hfp b hb).1.2.2.2.2.1, (hfp b hb).1.2.2.2.2.2⟩
    · exact (g1 b (old b ob q)).trans (u.keep b ob q n f x)
    · obtain ⟨sl, z⟩ := u.slot b ob q n f x
      exact ⟨sl, (g1 b (old b ob q)).trans z⟩
    · obtain ⟨o', z⟩ := u.there b ob q x
      exact ⟨o', (g1 b (old b ob q)).trans z⟩
    · refine (A.inv.hok b ob q).stay (fun c v hc z => (g1 c ?_).trans z) (fun _ z => z) fun _ _ z => z
      rintro rfl
      rcases hc with hc | hc
      · rw [← hc, nC] at q; cases q
      · rw [nC] at hc; cases hc
  · have q2 : sI.heap.get? b = some ob := by rw [← g1 b (gn b ob q)]; exact q
    exact (b1 b (gn b ob q)).trans (A.gnd b ob q2 hb)
  · have q2 : sI.heap.get? b = some ob := by rw [← g1 b (gn b ob q)]; exact q
    obtain ⟨sl, z⟩ := (A.up.trans up1) b ob q2 hnf
    obtain ⟨sl2, z2⟩ := up4 b { ob with slots := sl } ((sb.2 b (gn b ob q)).trans z) hnf
    exact ⟨sl2, z2⟩
  · rw [hs]
    exact .inr (.inr hh4)
end
end MI

set_option Elab.async false
set_option linter.all false
set_option maxRecDepth 100000
set_option maxHeartbeats 4000000
/-! MINI, part 13: views changed; what is walked. -/
namespace MI
open PySem PySem.Spec PyProof.Rows L2

/-! ### another view -/
structure Same (w w' : Vw) : Prop where
  K : w'.K = w.K
  fa : w'.fa = w.fa
  ca : w'.ca = w.ca
  xa : w'.xa = w.xa
  xn : w'.xn = w.xn
  lam : w'.lamOk = w.lamOk
  T : w'.T = w.T
theorem Same.symm {w w' : Vw} (h : Same w w') : Same w' w := ⟨h.K.symm, h.fa.symm, h.ca.symm, h.xa.symm, h.xn.symm, h.lam.symm, h.T.symm⟩
theorem Same.trans {w w' w'' : Vw} (h : Same w w') (k : Same w' w'') : Same w w'' := ⟨k.K.trans h.K, k.fa.trans h.fa, k.ca.trans h.ca, k.xa.trans h.xa, k.xn.trans h.xn, k.lam.trans h.lam, k.T.trans h.T⟩
mutual
theorem Rep.vw {w w' : Vw} (h : Same w w') {φ : List Addr} {H : Hp} : ∀ {d : D} {v : V}, Rep w φ H d v → Rep w' φ H d v
  | .non, _, r => by unfold Rep at r ⊢; exact r
  | .bl _, _, r => by unfold Rep at r ⊢; exact r
  | .int _, _, r => by unfold Rep at r ⊢; exact r
  | .str _, _, r => by unfold Rep at r ⊢; exact r
  | .tup ds, v, r => by
    unfold Rep at r ⊢
    obtain ⟨a, xs, e, hx, hr⟩ := r
    exact ⟨a, xs, e, by rw [h.K]; exact hx, RepL.vw h hr⟩
  | .loc l, v, r => by unfold Rep at r ⊢; exact r
  | .fn f, _, r => by unfold Rep at r ⊢; rw [h.fa]; exact r
  | .clo k ls, v, r => by unfold Rep at r ⊢; rw [h.lam]; exact r
theorem RepL.vw {w w' : Vw} (h : Same w w') {φ : List Addr} {H : Hp} : ∀ {ds : List D} {xs : List V}, RepL w φ H ds xs → RepL w' φ H ds xs
  | [], _, r => by unfold RepL at r ⊢; exact r
  | d :: ds, xs, r => by
    unfold RepL at r ⊢
    obtain ⟨x, q, e, h1, h2⟩ := r
    exact ⟨x, q, e, Rep.vw h h1, RepL.vw h h2⟩
end
theorem ExR.vw {w w' : Vw} (h : Same w w') {φ : List Addr} {H : Hp} {x : Ex} {cls : Value} {da : Option Addr} (r : ExR w φ H x cls da) : ExR w' φ H x cls da := by
  obtain ⟨a, v, e1, e2, e3, e4⟩ := r
  exact ⟨a, v, by rw [h.xa]; exact e1, e2, by rw [h.xn]; exact e3, e4.vw h⟩
/-- the store, by another view: its cells told -/
theorem SR.vw {w w' : Vw} (h : Same w w') {c : Cf} (s : SR w c) (hc : ∀ (l : Nat) (a : Addr) (d : D), c.st[l]? = some (.cell (some d)) → c.φ[l]? = some a → (l ∈ w.own ∨ ∃ (o : Obj) (u : Value) (v : V), o.data = .cell (some u) ∧ RelV v u ∧ Rep w c.φ c.H d v ∧ w.kc l a o) →
    l ∈ w'.own ∨ ∃ (o : Obj) (u : Value) (v : V), o.data = .cell (some u) ∧ RelV v u ∧ Rep w c.φ c.H d v ∧ w'.kc l a o) : SR w' c where
  len := s.len
  nd := s.nd
  tabs := by rw [h.T]; exact s.tabs
  ob := fun l b a e f => by
    have k := s.ob l b a e f
    cases b with
    | lst ds =>
      obtain ⟨xs, h1, h2⟩ := k
      exact ⟨xs, h1, h2.vw h⟩
    | fro ds =>
      obtain ⟨o, xs, h1, h2⟩ := k
      exact ⟨o, xs, h1, h2.vw h⟩
    | ins c fs =>
      obtain ⟨dx, gs, h1, h2, h3⟩ := k
      exact ⟨dx, gs, by rw [h.ca]; exact h1, h2, h3.vw h⟩
    | dct kvs => exact k
    | cell d =>
      cases d with
      | none => exact .inr (.inl rfl)
      | some d =>
        have k' : l ∈ w.own ∨ ∃ (o : Obj) (u : Value) (v : V), o.data = .cell (some u) ∧ RelV v u ∧ Rep w c.φ c.H d v ∧ w.kc l a o := by
          rcases k with k | k | ⟨o, u, v, d', e1, h2, h3, h4, h5⟩
          · exact .inl k
          · cases k
          · cases e1
            exact .inr ⟨o, u, v, h2, h3, h4, h5⟩
        rcases hc l a d e f k' with q | ⟨o, u, v, h2, h3, h4, h5⟩
        · exact .inl q
        · exact .inr (.inr ⟨o, u, v, d, rfl, h2, h3, h4.vw h, h5⟩)
/-- a computation's end, by another view -/
theorem Post.vw {α β : Type} {w w' : Vw} {R R' : RR α β} {c : Cf} {r : Res α} {Q : β → Hp → Prop} {E : XK} (h : Same w w') (hS : ∀ c, SR w' c → SR w c) (hR : ∀ φ H d v, R' φ H d v → R φ H d v) (p : Post w R c r Q E) : Post w' R' c r Q E := by
  cases r with
  | ok d st => exact fun φ' H' v m s r => p φ' H' v m (hS _ s) (hR _ _ _ _ r)
  | ex x st => exact fun φ' H' cls da m s r => p φ' H' cls da m (hS _ s) (r.vw h.symm)
  | no => exact p
/-- within X, at s: its own cells stand -/
def inner (X : Cx) (w : Vw) (s : Shared) : Vw :=
  { w with own := [], kc := fun l a o => w.kc l a o ∨ (l ∈ w.own ∧ (∃ x, X.env.cells.lookup x = some a ∧ X.fn x = true) ∧ s.heap.get? a = some o) }
theorem inner_same {X : Cx} {w : Vw} {s : Shared} : Same w (inner X w s) := ⟨rfl, rfl, rfl, rfl, rfl, rfl, rfl⟩
section
variable {X : Cx} {w : Vw} {W : WX} {σ : L2.St} {s : Shared} {pins : List (Addr × Obj)} {c : Cf} {fr : Fr} {L : Addr}
theorem sr_in (I : Inv X pins σ c.H s) (hf : FrR X w fr σ c) (hs : SR w c) : SR (inner X w s) c := hs.vw inner_same fun l a d e f k => by
  rcases k with k | ⟨o, u, v, h2, h3, h4, h5⟩
  · obtain ⟨i, hi⟩ := hf.own l k
    obtain ⟨_, x, a', h1, h2, h3, h3', h4, h5⟩ := hf.cp i l hi
    rw [f] at h4
    cases h4
    rw [e] at h5
    have h5 : some d = fr.ρ[i]?.join := by injection (Option.some.inj h5)
    have h6 : fr.ρ[i]? = some (some d) := by
      cases q : fr.ρ[i]? with
      | none => rw [q] at h5; cases h5
      | some z =>
        rw [q] at h5
        exact congrArg some h5.symm
    obtain ⟨v, g1, g2⟩ := hf.val i d h6
    obtain ⟨m, _, hl⟩ := I.loc
    obtain ⟨u, r, lk⟩ := hl i x v h1 g1 (.inr (.inl h3))
    have lk : ∃ c', X.env.cells.lookup x = some c' ∧ s.heap.IsCell c' (some u) := by
      rcases lk with ⟨k1, _⟩ | ⟨_, k2⟩
      · rw [h3] at k1; cases k1
      · exact k2
    obtain ⟨c', k1, o, k2, k3⟩ := lk
    rw [h2] at k1
    cases k1
    exact .inr ⟨o, u, v, k3, r, g2, .inr ⟨k, ⟨x, h2, h3'⟩, k2⟩⟩
  · exact .inr ⟨o, u, v, h2, h3, h4, .inl h5⟩
theorem sr_out (hs : SR (inner X w s) c) : SR w c := hs.vw inner_same.symm fun l a d e f k => by
  rcases k with k | ⟨o, u, v, h2, h3, h4, h5⟩
  · cases k
  · rcases h5 with h5 | ⟨h5, _⟩
    · exact .inr ⟨o, u, v, h2, h3, h4, h5⟩
    · exact .inl h5
/-- the known cells stand since the entry -/
def Kc (X : Cx) (w : Vw) : Prop := ∀ l a o, w.kc l a o → X.s_0.heap.get? a = some o ∧ X.H_0 a = none ∧ a ∉ X.fs ∧ a ∉ X.ex
theorem Kc.at_ {H : Hp} (k : Kc X w) (I : Inv X pins σ H s) {l : Nat} {a : Addr} {o : Obj} (h : w.kc l a o) : s.heap.get? a = some o ∧ H a = none ∧ a ∉ frs X.stack ∧ a ≠ X.env.locals := by
  obtain ⟨h1, h2, h3, h4⟩ := k l a o h
  have nl : a ≠ X.env.locals := Nat.ne_of_lt (Nat.lt_of_lt_of_le (Heap.lt_size h1) I.ok.above)
  refine ⟨I.base.keep a o h1 h2 h3 h4, I.base.free a o h1 h2 h4, fun z => ?_, nl⟩
  rcases List.mem_cons.mp (I.stkSub a z) with z | z
  · exact nl z
  · exact h3 z
theorem kc_in {H : Hp} (k : Kc X w) (I : Inv X pins σ H s) {l : Nat} {a : Addr} {o : Obj} (h : (inner X w s).kc l a o) : s.heap.get? a = some o ∧ H a = none ∧ a ∉ frs X.stack ∧ ∀ b, FpOk X pins H b → a ≠ b := by
  rcases h with h | ⟨_, ⟨x, hx, hn⟩, h⟩
  · obtain ⟨h1, h2, h3, h4⟩ := k.at_ I h
    obtain ⟨g1, g2, g3, g4⟩ := k l a o h
    refine ⟨h1, h2, h3, fun b f z => ?_⟩
    subst z
    rcases f.2.2.2.1 with q | q
    · exact g4 q
    · exact absurd (Nat.lt_of_lt_of_le (Heap.lt_size g1) q) (Nat.lt_irrefl _)
  · refine ⟨h, I.freeC x a hx, fun z => ?_, fun b f z => f.2.2.2.2.1 x a hx z⟩
    rcases List.mem_cons.mp (I.stkSub a z) with q | q
    · exact I.cne x a hx q
    · obtain ⟨_, ob, ho, _⟩ := I.ok.funs.mem q
      exact absurd (Nat.lt_of_lt_of_le (Heap.lt_size ho) (I.ok.cab x a hn hx)) (Nat.lt_irrefl _)
end
/-- a first part told of its first place -/
theorem Post.bnR {α β γ δ : Type} {w : Vw} {R : RR α β} {R' : RR γ δ} {c1 c : Cf} {m : M γ} {f : γ → M α} {Q : β → Hp → Prop} {E : XK} (h : Post w R c1 (bnd m f c.st) Q E) (m1 : Mono [] c1 c) :
    PostM w R' c m (fun v' H' => ∃ d' c', c'.H = H' ∧ Mono [] c c' ∧ SR w c' ∧ R' c'.φ c'.H d' v' ∧ Post w R c1 (f d' c'.st) Q E) E := by
  unfold MI.bnd at h
  unfold PostM
  cases e : m c.st with
  | ok d st' =>
    rw [e] at h
    exact fun φ' H' v' mo s r => ⟨d, ⟨φ', H', st'⟩, rfl, mo, s, r, h⟩
  | ex x st' =>
    rw [e] at h
    exact fun φ' H' cls da mo s r => h φ' H' cls da (m1.trans mo) s r
  | no =>
    rw [e] at h
    exact h.elim

/-! ### what is walked -/
theorem chk_ok {wl : List (Nat × List D)} {st : Store} : chk wl st = .ok () st ∨ chk wl st = .no := by
  induction wl with
  | nil => exact .inl rfl
  | cons p r ih =>
    obtain ⟨l, ds⟩ := p
    unfold chk
    by_cases h : st[l]? = some (.lst ds) ∨ st[l]? = some (.fro ds)
    · rw [if_pos h]
      exact ih
    · rw [if_neg h]
      exact .inr rfl
theorem chk_one {l : Nat} {ds : List D} {st : Store} (h : chk [(l, ds)] st = .ok () st) : st[l]? = some (.lst ds) ∨ st[l]? = some (.fro ds) := by
  unfold chk at h
  by_cases q : st[l]? = some (.lst ds) ∨ st[l]? = some (.fro ds)
  · exact q
  · rw [if_neg q] at h
    cases h
/-- an iterator that feeds the items -/
def RI (w : Vw) : RR (List D × List (Nat × List D)) It := fun φ H it J =>
  ∀ (c' : Cf) (i : Nat), Ime ⟨φ, H, []⟩ c' → SR w c' → chk it.2 c'.st = .ok () c'.st →
    (∀ d, it.1[i]? = some d → J.go i c'.H ∧ ∀ x H', J.yld i c'.H x H' → H' = c'.H ∧ Rep w c'.φ c'.H d x) ∧ (it.1.length ≤ i → J.stop i c'.H)
theorem ri_list {w : Vw} {φ : List Addr} {H : Hp} {l : Nat} {a : Addr} {ds : List D} (h : φ[l]? = some a) : RI w φ H (ds, [(l, ds)]) (Itl w.K a) := fun c' i m s hc => by
  have ha : c'.φ[l]? = some a := m.pre l a h
  obtain ⟨b, xs, e1, hx, hr⟩ : ∃ b xs, V.ref a = .ref b ∧ SqL w.K c'.H b xs ∧ RepL w c'.φ c'.H ds xs := by
    rcases chk_one hc with q | q
    · obtain ⟨xs, h2, h3⟩ := s.ob l _ a q ha
      exact ⟨a, xs, rfl, SqL.of h2, h3⟩
    · obtain ⟨o, xs, h2, h3⟩ := s.ob l _ a q ha
      exact ⟨a, xs, rfl, .inl (.inr ⟨o, h2⟩), h3⟩
  cases e1
  refine ⟨fun d hd => ?_, fun hl => ⟨xs, hx, by rw [← hr.length]; exact hl⟩⟩
  obtain ⟨x, h1, h2⟩ := hr.get hd
  refine ⟨⟨xs, x, hx, h1⟩, fun y H' hy => ⟨hy.1, ?_⟩⟩
  have h3 := hy.2 xs hx
  rw [h1] at h3
  cases h3
  exact h2
theorem ri_tup {w : Vw} {φ : List Addr} {H : Hp} {a : Addr} {xs : List V} {ds : List D} {wl : List (Nat × List D)} (h : SqT w.K H a xs) (hr : RepL w φ H ds xs) : RI w φ H (ds, wl) (Itt w.K a) := fun c' i m s _ => by
  have hx : SqT w.K c'.H a xs := sqT_mono m h
  have hr : RepL w c'.φ c'.H ds xs := hr.ime m
  refine ⟨fun d hd => ?_, fun hl => ⟨xs, hx, by rw [← hr.length]; exact hl⟩⟩
  obtain ⟨x, h1, h2⟩ := hr.get hd
  refine ⟨⟨xs, x, hx, h1⟩, fun y H' hy => ⟨hy.1, ?_⟩⟩
  have h3 := hy.2 xs hx
  rw [h1] at h3
  cases h3
  exact h2
theorem ri_str {w : Vw} {φ : List Addr} {H : Hp} {z : Str} {wl : List (Nat × List D)} : RI w φ H (z.cps.toList.map fun c => .str ⟨#[c]⟩, wl) (Its z) := fun c' i m s _ => by
  refine ⟨fun d hd => ?_, fun hl => ?_⟩
  · rw [List.getElem?_map] at hd
    cases e : z.cps.toList[i]? with
    | none => rw [e] at hd; cases hd
    | some q =>
      rw [e] at hd
      cases hd
      have hq : z.cps[i]? = some q := by simpa using e
      have hi : i < z.cps.size := by
        rcases Nat.lt_or_ge i z.cps.size with k | k
        · exact k
        · rw [Array.getElem?_eq_none k] at hq; cases hq
      refine ⟨hi, fun y H' hy => ?_⟩
      obtain ⟨e1, p, hp, e2⟩ := hy
      rw [hq] at hp
      cases hp
      exact ⟨e1, rep_str.mpr e2⟩
  · have : z.cps.toList.length ≤ i := by simpa using hl
    show z.cps.size ≤ i
    simpa using this
theorem ri_rng {w : Vw} {φ : List Addr} {H : Hp} {i j : Int} {wl : List (Nat × List D)} : RI w φ H (rngL i j, wl) (Itr i (j - i).toNat) := fun c' k m s _ => by
  unfold rngL
  refine ⟨fun d hd => ?_, fun hl => by
    have hl : (j - i).toNat ≤ k := by simpa [-Int.toNat_le] using hl
    exact hl⟩
  rw [List.getElem?_map] at hd
  cases e : (List.range (j - i).toNat)[k]? with
  | none => rw [e] at hd; cases hd
  | some q =>
    rw [e] at hd
    cases hd
    have hk : k < (j - i).toNat := by
      rcases Nat.lt_or_ge k (j - i).toNat with z | z
      · exact z
      · rw [List.getElem?_eq_none (by simpa using z)] at e; cases e
    rw [List.getElem?_range hk] at e
    cases e
    exact ⟨hk, fun y H' hy => ⟨hy.1, rep_int.mpr hy.2⟩⟩
section
variable {X : Cx} {w : Vw} {W : WX} {tg : Expr} {a b : Expr} {ma mb : Fr → M D}
/-- a sequence or a text walked -/
theorem mi_seq (hK : w.K = X.K) (ha : PE X a (tM X w W (RD w) ma)) : PI X tg a (tM X w W (RI w) fun fr => bnd (ma fr) fun x => srcOf x) := by
  refine ⟨fun pins s σ H R I h => ?_⟩
  obtain ⟨fr, c, rfl, hf, hs, hp⟩ := h
  cases e1 : ma fr c.st with
  | no => exact (hp.no_ e1).elim
  | ex x st' => exact thn (ha.run pins s σ c.H (fun _ _ => False) I (tM_ex hf hs e1 hp)) fun u s1 ⟨_, _, _, _, z⟩ => z.elim
  | ok d st' =>
    have hq := hp.at_ e1
    cases d with
    | tup ds =>
      refine (pi_tup ha).run pins s σ c.H R I (tM_at hf hs e1 fun φ' H' v mo s' r => ?_)
      obtain ⟨p, xs, rfl, h1, h2⟩ := rep_tup.mp r
      exact ⟨p, rfl, ⟨xs, hK ▸ h1⟩, hq φ' H' _ mo s' (hK ▸ ri_tup h1 h2)⟩
    | str z =>
      refine (pi_str ha).run pins s σ c.H R I (tM_at hf hs e1 fun φ' H' v mo s' r => ?_)
      exact ⟨z, rep_str.mp r, hq φ' H' _ mo s' ri_str⟩
    | loc l =>
      cases e2 : st'[l]? with
      | none =>
        unfold srcOf at hq
        simp only [e2] at hq
        exact False.elim hq
      | some ob =>
        have key : ∀ ds, (st'[l]? = some (.lst ds) ∨ st'[l]? = some (.fro ds)) → Post w (RI w) c (.ok (ds, [(l, ds)]) st') R (WE W σ) → wpAny (model X.prog X.w) X.A (eval a X.env) (fun v s1 => wpAny (model X.prog X.w) X.A (pyIter v) (PIE X pins σ tg R) X.xe s1) X.xe s := fun ds hd hq => by
          refine (pi_list ha).run pins s σ c.H R I (tM_at hf hs e1 fun φ' H' v mo s' r => ?_)
          obtain ⟨p, rfl, h1⟩ := rep_loc.mp r
          refine ⟨p, rfl, ?_, hq φ' H' _ mo s' (hK ▸ ri_list h1)⟩
          rcases hd with hd | hd
          · obtain ⟨xs, h2, h3⟩ := s'.ob l _ p hd h1
            exact ⟨xs, SqL.of h2⟩
          · obtain ⟨o, xs, h2, h3⟩ := s'.ob l _ p hd h1
            exact ⟨xs, .inl (.inr ⟨o, h2⟩)⟩
        unfold srcOf at hq
        cases ob with
        | lst ds =>
          simp only [e2] at hq
          exact key ds (.inl e2) hq
        | fro ds =>
          simp only [e2] at hq
          exact key ds (.inr e2) hq
        | _ =>
          simp only [e2] at hq
          exact False.elim hq
    | _ => exact False.elim hq
theorem small_in {i : Int} (h : smallI i = true) : -(2 ^ 62) ≤ i ∧ i < 2 ^ 62 := by
  unfold smallI at h
  simpa using h
theorem mi_rng1 {p pos : Pos} (hg : Gl X "range") (hm : X.mg "range" = none) (hst : PySem.W.isStarred a = false) (ha : PE X a (tM X w W (RD w) ma)) :
    PI X tg (.Call (.Name "range" p) [a] [] pos) (tM X w W (RI w) fun fr => bnd (ma fr) fun x => itOf .rng1 x (.bl true)) := by
  have st : starEach [a] X.env = [(false, eval a X.env)] := (star_plain (pos := pos) (env := X.env) (es := []) fun x hx => by
    rcases List.mem_cons.mp hx with rfl | hx
    · exact hst
    · cases hx).1
  refine ⟨fun pins s σ H R I h => (pi_range1 hg hm (pa_cons ha pa_nil st) st).run pins s σ H R I ?_⟩
  refine tM_bnd h fun fr d v c hf hs hr hp => ?_
  cases d with
  | int j =>
    unfold itOf at hp
    obtain ⟨g, hp⟩ := PostM.grd hp
    obtain ⟨g1, g2⟩ := small_in g
    refine ⟨j, by rw [rep_int.mp hr], g1, g2, ?_⟩
    have := ri_rng (w := w) (φ := c.φ) (H := c.H) (i := 0) (j := j) (wl := [])
    rw [Int.sub_zero] at this
    exact PostM.rt hp hs this
  | _ => exact False.elim hp
theorem mi_rng2 {p pos : Pos} (hg : Gl X "range") (hm : X.mg "range" = none) (hst : PySem.W.isStarred a = false) (hst2 : PySem.W.isStarred b = false) (ha : PE X a (tM X w W (RD w) ma)) (hb : PE X b (tM X w W (RD w) mb)) :
    PI X tg (.Call (.Name "range" p) [a, b] [] pos) (tM X w W (RI w) fun fr => bnd (ma fr) fun x => bnd (mb fr) fun y => itOf .rng2 x y) := by
  have st2 : starEach [b] X.env = [(false, eval b X.env)] := (star_plain (pos := pos) (env := X.env) (es := []) fun x hx => by
    rcases List.mem_cons.mp hx with rfl | hx
    · exact hst2
    · cases hx).1
  have st : starEach [a, b] X.env = (false, eval a X.env) :: starEach [b] X.env := (star_plain (pos := pos) (env := X.env) (es := [b]) fun x hx => by
    rcases List.mem_cons.mp hx with rfl | hx
    · exact hst
    · rcases List.mem_cons.mp hx with rfl | hx
      · exact hst2
      · cases hx).1
  refine ⟨fun pins s σ H R I h => (pi_range2 hg hm (pa_cons ha (pa_cons hb pa_nil st2) st) (by rw [st, st2]) st2).run pins s σ H R I ?_⟩
  refine tM_bnd2 h fun x y v u c hs r1 r2 hp => ?_
  cases x with
  | int i => cases y with
    | int j =>
      unfold itOf at hp
      obtain ⟨g, hp⟩ := PostM.grd hp
      rw [Bool.and_eq_true] at g
      obtain ⟨g1, g2⟩ := small_in g.1
      obtain ⟨g3, g4⟩ := small_in g.2
      exact ⟨i, j, by rw [rep_int.mp r1, rep_int.mp r2], ⟨g1, g2, g3, g4⟩, PostM.rt hp hs ri_rng⟩
    | _ => exact False.elim hp
  | _ => exact False.elim hp
end
end MI

set_option Elab.async false
set_option linter.all false
set_option maxRecDepth 100000
set_option maxHeartbeats 4000000
/-! MINI, part 14: targets. -/
namespace MI
open PySem PySem.Spec PyProof.Rows L2
/-- what a binding leaves -/
structure Bound (X : Cx) (w : Vw) (sl : List Nat) (σ : L2.St) (c : Cf) (fr' : Fr) (st' : Store) (σ' : L2.St) : Prop where
  mono : Mono w.own c ⟨c.φ, c.H, st'⟩
  sr : SR w ⟨c.φ, c.H, st'⟩
  fr : FrR X w fr' σ' ⟨c.φ, c.H, st'⟩
  len : σ'.length = σ.length
  out : ∀ i, i ∉ sl → σ'[i]? = σ[i]?
/-- a value bound -/
def tB (X : Cx) (w : Vw) (sl : List Nat) (b : D → Fr → M Fr) : TG := fun v σ H Q => ∃ fr c d, c.H = H ∧ FrR X w fr σ c ∧ SR w c ∧ Rep w c.φ c.H d v ∧
  ∃ fr' st', b d fr c.st = .ok fr' st' ∧ ∀ σ', Bound X w sl σ c fr' st' σ' → Q σ' c.H
def tBs (X : Cx) (w : Vw) (sl : List Nat) (b : D → Fr → M Fr) : TGs := fun vs σ H Q => ∃ fr c ds, c.H = H ∧ FrR X w fr σ c ∧ SR w c ∧ RepL w c.φ c.H ds vs ∧
  ∃ fr' st', b (.tup ds) fr c.st = .ok fr' st' ∧ ∀ σ', Bound X w sl σ c fr' st' σ' → Q σ' c.H
theorem nodup_at {N : List Str} (h : N.Nodup) {i j : Nat} {x : Str} (a : N[i]? = some x) (b : N[j]? = some x) : i = j := nodup_ix h a b
section
variable {X : Cx} {w : Vw} {c : Cf} {fr : Fr} {σ : L2.St} {s : Shared} {pins : List (Addr × Obj)}
theorem set_bound {i : Nat} {d : D} {v : V} {fr' : Fr} {st' : Store} (hN : X.N.Nodup) (ok : X.Ok) (hi : i < X.N.length) (hl : σ.length = X.N.length) (hf : FrR X w fr σ c) (hs : SR w c) (r : Rep w c.φ c.H d v) (e : fr.set i d c.st = .ok fr' st') :
    Bound X w [i] σ c fr' st' (σ.set i (some v)) := by
  have hr : i < fr.ρ.length := by rw [hf.len, hl]; exact hi
  have val : ∀ (j : Nat) (e : D), (fr.ρ.set i (some d))[j]? = some (some e) → ∃ u, (σ.set i (some v))[j]? = some (some u) ∧ Rep w c.φ c.H e u := fun j e h => by
    by_cases q : i = j
    · subst q
      rw [List.getElem?_set_self hr] at h
      cases h
      exact ⟨v, by rw [List.getElem?_set_self (by rw [hl]; exact hi)], r⟩
    · rw [List.getElem?_set_ne q] at h
      obtain ⟨u, h1, h2⟩ := hf.val j e h
      exact ⟨u, by rw [List.getElem?_set_ne q]; exact h1, h2⟩
  have out : ∀ j, j ∉ [i] → (σ.set i (some v))[j]? = σ[j]? := fun j hj => by
    rw [List.getElem?_set_ne]
    intro z
    exact hj (by simp [z])
  unfold Fr.set at e
  cases q : fr.cp.lookup i with
  | none =>
    simp only [q] at e
    cases e
    refine ⟨Mono.refl _, hs, ⟨by simp [hf.len], val, fun j l hj => ?_, hf.own⟩, by simp, out⟩
    obtain ⟨h0, x, a, h1, h2, h3, h3', h4, h5⟩ := hf.cp j l hj
    refine ⟨h0, x, a, h1, h2, h3, h3', h4, ?_⟩
    have : i ≠ j := fun z => by rw [z] at q; rw [q] at hj; cases hj
    show c.st[l]? = some (.cell ((fr.ρ.set i (some d))[j]?.join))
    rw [List.getElem?_set_ne this]
    exact h5
  | some l =>
    simp only [q] at e
    cases e
    obtain ⟨h0, x, a, h1, h2, h3, h3', h4, h5⟩ := hf.cp i l q
    have hll : l < c.st.length := by
      rcases Nat.lt_or_ge l c.st.length with z | z
      · exact z
      · rw [List.getElem?_eq_none z] at h5; cases h5
    refine ⟨⟨fun _ _ h => h, fun _ _ h _ => h, fun _ _ h _ _ => h, fun _ ps h => ⟨#[], by simpa using h⟩, fun x ⟨k, u, e, t, f⟩ => ?_, fun k e nk h => ?_, fun k o h => ?_⟩, ⟨by simp [hs.len], fun k k' b b' a' e1 e2 t1 t2 f1 f2 => ?_, fun k b a' e1 f1 => ?_, hs.tabs⟩, ⟨by simp [hf.len], val, fun j l' hj => ?_, hf.own⟩, by simp, out⟩
    · have e : (c.st.set l (.cell (some d)))[k]? = some u := e
      by_cases z : l = k
      · subst z
        rw [List.getElem?_set_self hll] at e
        cases e
        cases t
      · rw [List.getElem?_set_ne z] at e
        exact .inl ⟨k, u, e, t, f⟩
    · show (c.st.set l (.cell (some d)))[k]? = _
      rw [List.getElem?_set_ne]
      · exact h
      · rintro rfl
        exact nk h0
    · by_cases z : l = k
      · subst z
        rw [h5] at h
        cases h
        exact ⟨.cell (some d), by show (c.st.set l (.cell (some d)))[l]? = _; rw [List.getElem?_set_self hll], trivial⟩
      · exact ⟨o, by show (c.st.set l (.cell (some d)))[k]? = _; rw [List.getElem?_set_ne z]; exact h, kindEq.refl o⟩
    · have old : ∀ k b, (c.st.set l (.cell (some d)))[k]? = some b → trkB b = true → c.st[k]? = some b := fun k b e t => by
        by_cases z : l = k
        · subst z
          rw [List.getElem?_set_self hll] at e
          cases e
          cases t
        · rw [List.getElem?_set_ne z] at e
          exact e
      exact hs.nd k k' b b' a' (old k b e1 t1) (old k' b' e2 t2) t1 t2 f1 f2
    · have e1 : (c.st.set l (.cell (some d)))[k]? = some b := e1
      by_cases z : l = k
      · subst z
        rw [List.getElem?_set_self hll] at e1
        cases e1
        exact .inl h0
      · rw [List.getElem?_set_ne z] at e1
        exact hs.ob k b a' e1 f1
    · obtain ⟨g0, y, b, g1, g2, g3, g3', g4, g5⟩ := hf.cp j l' hj
      refine ⟨g0, y, b, g1, g2, g3, g3', g4, ?_⟩
      show (c.st.set l (.cell (some d)))[l']? = some (.cell ((fr.ρ.set i (some d))[j]?.join))
      by_cases z : i = j
      · subst z
        rw [q] at hj
        cases hj
        rw [List.getElem?_set_self hll, List.getElem?_set_self hr]
        rfl
      · have nl : l ≠ l' := fun e => by
          subst e
          rw [h4] at g4
          cases g4
          have exy := ok.inj x y a h2 g2
          subst exy
          exact z (nodup_at hN h1 g1)
        rw [List.getElem?_set_ne nl, List.getElem?_set_ne z]
        exact g5
theorem lt_of_get {α : Type} {xs : List α} {i : Nat} {x : α} (h : xs[i]? = some x) : i < xs.length := by
  rcases Nat.lt_or_ge i xs.length with z | z
  · exact z
  · rw [List.getElem?_eq_none z] at h; cases h
theorem mg_nm {i : Nat} {x : Str} {pos : Pos} (hN : X.N.Nodup) (hi : X.N[i]? = some x) (hx : Loc X.env.scope x) (hf : X.fn x = true ∨ X.env.scope.names.lookup x = some .local) : PG X (.Name x pos) (tB X w [i] (bindT (.nm i))) := by
  refine ⟨fun pins s σ H v u Q I r h => (pg_name hN hi hx hf).run pins s σ H v u Q I r ?_⟩
  obtain ⟨fr, c, d, rfl, hfr, hs, hr, fr', st', e, k⟩ := h
  exact k _ (set_bound hN I.ok (lt_of_get hi) I.len hfr hs hr e)
/-- a list of targets -/
structure TgR (X : Cx) (w : Vw) (a : Tg) (es : List Expr) : Prop where
  run : PGs X es (tBs X w a.slots (bindT a))
  len : ∀ ds fr st fr' st', bindT a (.tup ds) fr st = .ok fr' st' → ds.length = es.length
  star : ∀ y ∈ es, PySem.W.isStarred y = false
theorem tgr_nil : TgR X w .nil [] where
  run := ⟨fun pins s σ H vs us Q I r h => pgs_nil.run pins s σ H vs us Q I r (by
    obtain ⟨fr, c, ds, rfl, hfr, hs, hr, fr', st', e, k⟩ := h
    cases ds with
    | nil =>
      cases e
      exact ⟨hr.nil_inv, k σ ⟨Mono.refl _, hs, hfr, rfl, fun _ _ => rfl⟩⟩
    | cons d r => cases e)⟩
  len := fun ds fr st fr' st' e => by
    cases ds with
    | nil => rfl
    | cons d r => cases e
  star := fun y hy => by cases hy
theorem Bound.trans {sl sl' : List Nat} {fr1 fr2 : Fr} {st1 st2 : Store} {σ1 σ2 : L2.St} (h : Bound X w sl σ c fr1 st1 σ1) (k : Bound X w sl' σ1 ⟨c.φ, c.H, st1⟩ fr2 st2 σ2) : Bound X w (sl ++ sl') σ c fr2 st2 σ2 where
  mono := h.mono.trans k.mono
  sr := k.sr
  fr := k.fr
  len := k.len.trans h.len
  out := fun i hi => by
    rw [k.out i fun z => hi (List.mem_append_right _ z), h.out i fun z => hi (List.mem_append_left _ z)]
theorem assign_each {e : Expr} {es : List Expr} {env : Env} (h : PySem.W.isStarred e = false) : assignEach (e :: es) env = (false, assign e env) :: assignEach es env := by
  cases e <;> first | rfl | cases h
theorem tgr_cons {e : Expr} {es : List Expr} {a b : Tg} (h1 : PG X e (tB X w a.slots (bindT a))) (h2 : TgR X w b es) (hst : PySem.W.isStarred e = false) : TgR X w (.cons a b) (e :: es) where
  run := ⟨fun pins s σ H vs us Q I r h => (pgs_cons h1 h2.run (by rw [assign_each hst]; rfl)).run pins s σ H vs us Q I r (by
    obtain ⟨fr, c, ds, rfl, hfr, hs, hr, fr', st', e, k⟩ := h
    cases ds with
    | nil => cases e
    | cons d ds =>
      obtain ⟨x, xs, rfl, r1, r2⟩ := hr.cons_inv
      unfold bindT bnd at e
      cases e1 : bindT a d fr c.st with
      | ok fr1 st1 =>
        simp only [e1] at e
        exact ⟨x, xs, rfl, fr, c, d, rfl, hfr, hs, r1, fr1, st1, e1, fun σ1 B1 => ⟨fr1, ⟨c.φ, c.H, st1⟩, ds, rfl, B1.fr, B1.sr, r2, fr', st', e, fun σ2 B2 => k σ2 (B1.trans B2)⟩⟩
      | ex x st1 => simp only [e1] at e; cases e
      | no => simp only [e1] at e; cases e)⟩
  len := fun ds fr st fr' st' e => by
    cases ds with
    | nil => cases e
    | cons d ds =>
      unfold bindT bnd at e
      cases e1 : bindT a d fr st with
      | ok fr1 st1 =>
        simp only [e1] at e
        have := h2.len _ _ _ _ _ e
        simp [this]
      | ex x st1 => simp only [e1] at e; cases e
      | no => simp only [e1] at e; cases e
  star := fun y hy => by
    rcases List.mem_cons.mp hy with rfl | hy
    · exact hst
    · exact h2.star y hy
theorem each_len {es : List Expr} {env : Env} : (∀ y ∈ es, PySem.W.isStarred y = false) → (assignEach es env).length = es.length ∧ (assignEach es env).findIdx? (·.1) = none := by
  induction es with
  | nil => intro _; exact ⟨rfl, rfl⟩
  | cons e es ih =>
    intro h
    rw [assign_each (h e List.mem_cons_self)]
    obtain ⟨h1, h2⟩ := ih fun y hy => h y (List.mem_cons_of_mem _ hy)
    exact ⟨by simp [h1], by simp [List.findIdx?_cons, h2]⟩
theorem mg_tup {es : List Expr} {a : Tg} {k : Nat} {pos : Pos} (hc : X.calm = true) (hK : w.K = X.K) (h : TgR X w a es) : PG X (.Tuple es k pos) (tB X w (Tg.tup a).slots (bindT (.tup a))) := by
  obtain ⟨l1, l2⟩ := each_len (env := X.env) h.star
  refine ⟨fun pins s σ H v u Q I r hq => (pg_tup (n := es.length) hc h.run l1 l2).run pins s σ H v u Q I r ?_⟩
  obtain ⟨fr, c, d, rfl, hfr, hs, hr, fr', st', e, k⟩ := hq
  have key : ∀ ds, d = .tup ds → bindT a (.tup ds) fr c.st = .ok fr' st' → gTup X.K es.length (tBs X w a.slots (bindT a)) v σ c.H Q := fun ds ed e => by
    subst ed
    obtain ⟨p, xs, rfl, h1, h2⟩ := rep_tup.mp hr
    exact ⟨p, xs, rfl, hK ▸ h1, by rw [← h2.length]; exact h.len _ _ _ _ _ e, fr, c, ds, rfl, hfr, hs, h2, fr', st', e, k⟩
  cases d with
  | tup ds => exact key ds rfl (by unfold bindT at e; exact e)
  | _ => unfold bindT at e; cases e
end
end MI

set_option Elab.async false
set_option linter.all false
set_option maxRecDepth 100000
set_option maxHeartbeats 4000000
/-! MINI, part 15: list comprehensions whose parts may raise. -/
namespace MI
open PySem PySem.Spec PyProof.Rows L2
/-! ### a list under construction -/
section
variable {w : Vw} {c c1 : Cf} {q0 : Addr} {xs : List V} {o : HO} {ex : List Nat}
theorem Ime.side (h : c.H q0 = some (.lst xs)) : Ime c ⟨c.φ, upd c.H q0 o, c.st⟩ := ⟨fun _ _ h => h, fun a u e i => by
  show upd c.H q0 o a = some u
  rw [upd_ne]
  · exact e
  · rintro rfl
    rw [h] at e
    cases e
    cases i⟩
theorem SR.side (s : SR w c) (h : c.H q0 = some (.lst xs)) (n : ¬ On c q0) : SR w ⟨c.φ, upd c.H q0 o, c.st⟩ where
  len := s.len
  nd := s.nd
  tabs := tabs_upd s.tabs fun u hu => by
    rw [h] at hu
    cases hu
    exact ⟨rfl, fun φ z => by cases z⟩
  ob := fun l b a e f => (s.ob l b a e f).ime_keep (c' := ⟨c.φ, upd c.H q0 o, c.st⟩) (Ime.side h) fun tb u hu => by
    show upd c.H q0 o a = some u
    rw [upd_ne]
    · exact hu
    · rintro rfl
      exact n ⟨l, b, e, tb, f⟩
theorem Mono.side (m : Mono ex c1 c) (h : c1.H q0 = none) : Mono ex c1 ⟨c.φ, upd c.H q0 o, c.st⟩ where
  pre := m.pre
  imm := fun a u e i => by
    show upd c.H q0 o a = some u
    rw [upd_ne (ne_of_none e h)]
    exact m.imm a u e i
  oth := fun a u e n t => by
    show upd c.H q0 o a = some u
    rw [upd_ne (ne_of_none e h)]
    exact m.oth a u e n t
  tbl := fun a ps e => by
    obtain ⟨more, q⟩ := m.tbl a ps e
    exact ⟨more, by show upd c.H q0 o a = _; rw [upd_ne (ne_of_none e h)]; exact q⟩
  new := m.new
  cel := m.cel
  knd := m.knd
theorem Mono.adopt {b : Ob} (m : Mono ex c1 c) (h : c1.H q0 = none) (hn : c.φ.length = c.st.length) : Mono ex c1 ⟨c.φ ++ [q0], c.H, c.st ++ [b]⟩ where
  pre := fun l a e => get_append_old (m.pre l a e)
  imm := m.imm
  oth := m.oth
  tbl := m.tbl
  new := fun a ⟨l, u, e, t, f⟩ => by
    rcases get_append_new f with f | ⟨_, rfl⟩
    · rcases get_append_new e with e | ⟨rfl, _⟩
      · exact m.new a ⟨l, u, e, t, f⟩
      · rw [List.getElem?_eq_none (by rw [hn]; exact Nat.le_refl _)] at f
        cases f
    · exact .inr h
  cel := fun l d n e => get_append_old (m.cel l d n e)
  knd := fun l u e => by
    obtain ⟨u', q, k⟩ := m.knd l u e
    exact ⟨u', get_append_old q, k⟩
theorem Ime.adopt {b : Ob} : Ime c ⟨c.φ ++ [q0], c.H, c.st ++ [b]⟩ := ⟨fun _ _ h => get_append_old h, fun _ _ h _ => h⟩
theorem SR.adopt {ds : List D} (s : SR w c) (h : c.H q0 = some (.lst xs)) (n : ¬ On c q0) (r : RepL w c.φ c.H ds xs) : SR w ⟨c.φ ++ [q0], c.H, c.st ++ [.lst ds]⟩ where
  len := by simp [s.len]
  tabs := s.tabs
  nd := fun l l' b1 b2 a e1 e2 t1 t2 f1 f2 => by
    have key : ∀ (l : Nat) (b1 : Ob), (c.st ++ [.lst ds])[l]? = some b1 → trkB b1 = true → (c.φ ++ [q0])[l]? = some a → (c.st[l]? = some b1 ∧ c.φ[l]? = some a ∧ a ≠ q0) ∨ (l = c.st.length ∧ a = q0) := fun l b1 e t f => by
      rcases get_append_new e with e | ⟨e, _⟩
      · have hl : l < c.φ.length := by rw [s.len]; exact lt_of_get e
        rw [List.getElem?_append_left hl] at f
        exact .inl ⟨e, f, fun z => n (by rw [← z]; exact ⟨l, b1, e, t, f⟩)⟩
      · subst e
        rw [← s.len] at f
        simp at f
        exact .inr ⟨rfl, f.symm⟩
    rcases key l b1 e1 t1 f1 with ⟨e1, f1, n1⟩ | ⟨e1, n1⟩ <;> rcases key l' b2 e2 t2 f2 with ⟨e2, f2, n2⟩ | ⟨e2, n2⟩
    · exact s.nd l l' b1 b2 a e1 e2 t1 t2 f1 f2
    · exact absurd n2 n1
    · exact absurd n1 n2
    · rw [e1, e2]
  ob := fun l b a e f => by
    rcases get_append_new e with e | ⟨e2, rfl⟩
    · have hl : l < c.φ.length := by rw [s.len]; exact lt_of_get e
      have f : (c.φ ++ [q0])[l]? = some a := f
      rw [List.getElem?_append_left hl] at f
      exact (s.ob l b a e f).ime_keep (c' := ⟨c.φ ++ [q0], c.H, c.st ++ [.lst ds]⟩) Ime.adopt fun _ _ h => h
    · subst e2
      have f' : (c.φ ++ [q0])[c.st.length]? = some a := f
      rw [← s.len] at f'
      simp at f'
      subst f'
      exact ⟨xs, h, r.ime (c' := ⟨c.φ ++ [q0], c.H, c.st ++ [.lst ds]⟩) (Ime.adopt (b := .lst ds))⟩
end
/-- a first part, told of its first place and by another view -/
theorem Post.bnV {α β γ δ : Type} {w wb : Vw} {R : RR α β} {R' : RR γ δ} {c1 c : Cf} {m : M γ} {f : γ → M α} {Q : β → Hp → Prop} {E : XK} (h : Post w R c1 (bnd m f c.st) Q E) (m1 : Mono [] c1 c) (sm : Same w wb) (hS : ∀ c, SR wb c → SR w c) :
    PostM wb R' c m (fun v' H' => ∃ d' c', c'.H = H' ∧ Mono [] c c' ∧ SR wb c' ∧ R' c'.φ c'.H d' v' ∧ Post w R c1 (f d' c'.st) Q E) E := by
  unfold MI.bnd at h
  unfold PostM
  cases e : m c.st with
  | ok d st' =>
    rw [e] at h
    exact fun φ' H' v' mo s r => ⟨d, ⟨φ', H', st'⟩, rfl, mo, s, r, h⟩
  | ex x st' =>
    rw [e] at h
    exact fun φ' H' cls da mo s r => h φ' H' cls da (m1.trans mo) (hS _ s) (r.vw sm.symm)
  | no =>
    rw [e] at h
    exact h.elim
theorem Post.ck {α β : Type} {w : Vw} {R : RR α β} {c1 : Cf} {wl : List (Nat × List D)} {f : Unit → M α} {st : Store} {Q : β → Hp → Prop} {E : XK} (h : Post w R c1 (bnd (chk wl) f st) Q E) : chk wl st = .ok () st ∧ Post w R c1 (f () st) Q E := by
  unfold MI.bnd at h
  rcases chk_ok (wl := wl) (st := st) with e | e
  · rw [e] at h
    exact ⟨e, h⟩
  · rw [e] at h
    exact h.elim
theorem bindT_noex : ∀ {a : Tg} {d : D} {fr : Fr} {st : Store}, (∃ fr' st', bindT a d fr st = .ok fr' st') ∨ bindT a d fr st = .no
  | .nm i, d, fr, st => by
    unfold bindT Fr.set
    cases fr.cp.lookup i with
    | none => exact .inl ⟨_, _, rfl⟩
    | some l => exact .inl ⟨_, _, rfl⟩
  | .nil, d, fr, st => by
    cases d with
    | tup ds => cases ds with
      | nil => exact .inl ⟨_, _, rfl⟩
      | cons x r => exact .inr rfl
    | _ => exact .inr rfl
  | .cons a b, d, fr, st => by
    cases d with
    | tup ds => cases ds with
      | nil => exact .inr rfl
      | cons x r =>
        unfold bindT bnd
        rcases @bindT_noex a x fr st with ⟨fr1, st1, e⟩ | e
        · simp only [e]
          exact bindT_noex
        · simp only [e]
          exact .inr trivial
    | _ => exact .inr rfl
  | .tup a, d, fr, st => by
    cases d with
    | tup ds =>
      unfold bindT
      exact bindT_noex
    | _ => exact .inr rfl
/-- how a block's context lies to its def's -/
structure BlkR (X : Cx) (w : Vw) (W : WX) (L : Addr) (scope : Scope) (Xb : Cx) (wb : Vw) (Wb : WX) : Prop where
  prog : Xb.prog = X.prog
  wd : Xb.w = X.w
  K : Xb.K = X.K
  mg : Xb.mg = X.mg
  base : Xb.base = X.base
  A : Xb.A = X.A
  N : Xb.N = X.N
  calm : Xb.calm = X.calm
  sc : Xb.env.scope = relS scope X.env.scope
  fn : Xb.fn = fun x => scope.names.lookup x == some .cell
  thr : Thr Xb L Wb
  same : Same w wb
  own : wb.own = []
  kc : Kc Xb wb
def lcTurn (btg : Tg) (ρ : List (Option D)) (mc me : Fr → M D) : D → M (Option D) := fun d => bnd (bindT btg d { ρ := wipeL ρ btg.slots, cp := [] }) fun fr' => bnd (mc fr') fun z => bnd (tst z) fun t => match t with
  | true => bnd (me fr') fun w => ret (some w)
  | false => ret none
noncomputable def lcM (mi : Fr → M (List D × List (Nat × List D))) (btg : Tg) (mc me : Fr → M D) : Fr → M D := fun fr => bnd (mi fr) fun it => bnd (guard (decide (it.1.length ≤ sizeLine))) fun _ =>
  bnd (lcGo (lcTurn btg fr.ρ mc me) (chk it.2) it.1) fun ds => alloc (.lst ds)
theorem wipeL_some {ρ : List (Option D)} {i : Nat} {d : D} : ∀ {vs : List Nat}, (wipeL ρ vs)[i]? = some (some d) → ρ[i]? = some (some d) ∧ i ∉ vs
  | [], h => ⟨h, by simp⟩
  | v :: vs, h => by
    unfold wipeL at h
    by_cases hi : v = i
    · subst hi
      by_cases hv : v < (wipeL ρ vs).length
      · rw [List.getElem?_set_self hv] at h; cases h
      · rw [List.getElem?_eq_none (by simpa using hv)] at h; cases h
    · rw [List.getElem?_set_ne hi] at h
      obtain ⟨h1, h2⟩ := wipeL_some h
      exact ⟨h1, by simp only [List.mem_cons, not_or]; exact ⟨fun e => hi e.symm, h2⟩⟩
theorem wipeL_len (ρ : List (Option D)) : ∀ vs : List Nat, (wipeL ρ vs).length = ρ.length
  | [] => rfl
  | v :: vs => by unfold wipeL; rw [List.length_set, wipeL_len ρ vs]
theorem wipe_keep {σ : L2.St} {i : Nat} : ∀ {vs : List Nat}, i ∉ vs → (wipe σ vs)[i]? = σ[i]?
  | [], _ => rfl
  | v :: vs, h => by
    unfold wipe
    rw [List.getElem?_set_ne fun z => h (by simp [z]), wipe_keep fun z => h (List.mem_cons_of_mem _ z)]
section
variable {X : Cx} {w : Vw} {W : WX} {L : Addr} {tg iter elt : Expr} {ifs : List Expr} {scope : Scope} {own : List (Str × Nat)} {pos pos' : Pos} {mi : Fr → M (List D × List (Nat × List D))} {btg : Tg} {mc me : Fr → M D}
/-- an iterator that is walked in contexts of a kind Cn -/
structure TurnP (Cn : Cx → Prop) (P : Program) (wd : World) (K : PySem.W.Frag) (tg : Expr) (J : It) (fp : List Addr) (it : Addr) (tn : Nat → Heap → Prop) : Prop where
  obj : ∀ i h, tn i h → ∀ b, b ∈ fp → ∃ o, h.get? b = some o ∧ ∀ v, o.data ≠ .cell v
  keep : ∀ i h k, tn i h → (∀ b, b ∈ fp → ∀ o, h.get? b = some o → k.get? b = some o) → tn i k
  item : ∀ (X : Cx), X.prog = P → X.w = wd → X.K = K → Cn X → ∀ (i : Nat) (pins : List (Addr × Obj)) (s : Shared) (σ : L2.St) (H : Hp) (E : Value → Shared → Prop),
    Inv X pins σ H s → (∀ b, b ∈ fp → FpOk X pins H b) → tn i s.heap → J.go i H → wpAny (model P wd) X.A (pyNext (.ref it))
      (fun r s1 => ∃ u, r = some u ∧ wpAny (model P wd) X.A (letOwnedTupleGo tg (.ref it) u)
        (fun _ s2 => ∃ x H', Inv X pins σ H' s2 ∧ RelV x u ∧ J.yld i H x H' ∧ tn (i + 1) s2.heap ∧ ∀ b, b ∈ fp → H' b = none) E s1) E s
  done : ∀ (X : Cx), X.prog = P → X.w = wd → X.K = K → Cn X → ∀ (i : Nat) (pins : List (Addr × Obj)) (s : Shared) (σ : L2.St) (H : Hp) (E : Value → Shared → Prop),
    Inv X pins σ H s → (∀ b, b ∈ fp → FpOk X pins H b) → tn i s.heap → J.stop i H → wpAny (model P wd) X.A (pyNext (.ref it)) (fun r s1 => r = none ∧ Inv X pins σ H s1) E s
  self : ∀ (A : Around) (i : Nat) (s : Shared) (Q E : Value → Shared → Prop), tn i s.heap → Q (.ref it) s → wpAny (model P wd) A (pyIter (.ref it)) Q E s
/-- an expression whose value is such an iterator's -/
structure PIP (Cn : Cx → Prop) (X : Cx) (tg iter : Expr) (wi : TI) : Prop where
  run : ∀ (pins : List (Addr × Obj)) (s : Shared) (σ : L2.St) (H : Hp) (R : It → Hp → Prop), Inv X pins σ H s → wi σ H R → wpAny (model X.prog X.w) X.A (eval iter X.env)
    (fun v s1 => wpAny (model X.prog X.w) X.A (pyIter v) (fun itv s2 => ∃ (it : Addr) (fp : List Addr) (tn : Nat → Heap → Prop) (J : It) (H' : Hp),
      itv = .ref it ∧ Inv X pins σ H' s2 ∧ TurnP Cn X.prog X.w X.K tg J fp it tn ∧ tn 0 s2.heap ∧ (∀ b, b ∈ fp → FpOk X pins H' b) ∧ R J H') X.xe s1) X.xe s
abbrev CnCalm : Cx → Prop := fun X => X.calm = true
theorem pip_of {X : Cx} {tg iter : Expr} {wi : TI} (h : PI X tg iter wi) : PIP CnCalm X tg iter wi :=
  ⟨fun pins s σ H R I q => thn (h.run pins s σ H R I q) fun v s1 h1 => thn h1 fun itv s2 ⟨it, fp, tn, J, H', e, I2, T, st, f, r⟩ =>
    ⟨it, fp, tn, J, H', e, I2, ⟨T.obj, T.keep, T.item, T.done, T.self⟩, st, f, r⟩⟩
abbrev AnyZ : L2.St → Hp → Prop := fun _ _ => True
theorem PIP.any {Cn : Cx → Prop} {X : Cx} {tg iter : Expr} {wi : TI} (h : PIP Cn X tg iter wi) : PIP Cn X tg iter fun σ H R => AnyZ σ H ∧ wi σ H R := ⟨fun pins s σ H R I q => h.run pins s σ H R I q.2⟩
/-- what a comprehension's parts must be -/
structure LcP (Cn : Cx → Prop) (Z : L2.St → Hp → Prop) (X : Cx) (w : Vw) (W : WX) (L : Addr) (tg iter elt : Expr) (ifs : List Expr) (scope : Scope) (own : List (Str × Nat)) (mi : Fr → M (List D × List (Nat × List D))) (btg : Tg) (mc me : Fr → M D) : Prop where
  cn : ∀ (pins : List (Addr × Obj)) (σ : L2.St) (H : Hp) (s : Shared) (ce : Env) (fp : List Addr), Inv X pins σ H s → (∀ b, b ∈ fp → FpOk X pins H b ∧ b < s.heap.objs.size) → Cn (Blk X s H scope ce fp)
  nd : X.N.Nodup
  thr : Thr X L W
  kc : Kc X w
  it : PIP Cn X tg iter fun σ H R => Z σ H ∧ tM X w W (RI w) mi σ H R
  ok : BlkOk X.N X.env.scope scope own
  sl : own.map (·.2) = btg.slots
  blk : ∀ Xb wb Wb, BlkR X w W L scope Xb wb Wb → PG Xb tg (tB Xb wb btg.slots (bindT btg)) ∧ PTs Xb ifs (tM Xb wb Wb RB fun fr => bnd (mc fr) tst) ∧ PE Xb elt (tM Xb wb Wb (RD wb) me)
  set : ∀ x, foldedSetIterable iter X.env x = pure x
theorem lcGo_cons {f : D → M (Option D)} {ck : M Unit} {d : D} {r acc : List D} : bnd (lcGo f ck (d :: r)) (fun ds => alloc (.lst (acc ++ ds))) = bnd ck fun _ => bnd (f d) fun o => bnd (lcGo f ck r) fun ds => alloc (.lst ((acc ++ o.toList) ++ ds)) := by
  conv => lhs; unfold lcGo
  rw [bnd_assoc]
  congr 1
  funext _
  rw [bnd_assoc]
  congr 1
  funext o
  rw [bnd_assoc]
  congr 1
  funext ds
  cases o with
  | none => simp; rfl
  | some x => simp; rfl
end
end MI

set_option Elab.async false
set_option linter.all false
set_option maxRecDepth 100000
set_option maxHeartbeats 8000000
/-! MINI, part 16: list comprehensions run. -/
namespace MI
open PySem PySem.Spec PyProof.Rows L2
section
variable {X : Cx} {w : Vw} {W : WX} {L : Addr} {tg iter elt : Expr} {ifs : List Expr} {scope : Scope} {own : List (Str × Nat)} {pos pos' : Pos} {mi : Fr → M (List D × List (Nat × List D))} {btg : Tg} {mc me : Fr → M D}
/-- one place of the loop -/
structure Lp (wb : Vw) (w : Vw) (btg : Tg) (ρ : List (Option D)) (mc me : Fr → M D) (it : List D × List (Nat × List D)) (c1 : Cf) (p : Addr) (Q : VK) (E : XK) (i : Nat) (c : Cf) (acc : List D) (xs : List V) : Prop where
  le : i ≤ it.1.length
  sr : SR wb c
  mo : Mono [] c1 c
  at_ : c.H p = some (.lst xs)
  off : ¬ On c p
  rep : RepL wb c.φ c.H acc xs
  few : acc.length ≤ i
  go : Post w (RD w) c1 (bnd (lcGo (lcTurn btg ρ mc me) (chk it.2) (it.1.drop i)) (fun ds => alloc (.lst (acc ++ ds))) c.st) Q E
def outR (M0 : Model) (X : Cx) (use : Option (Value → Sem Unit)) (Qf : Value → Shared → Prop) (acc : Value) (ce : Env) (r : Result) (s' : Shared) : Prop := match r with
  | .ok _ => compEnds M0 X.A X.xe use Qf acc ce (.ok .next) s'
  | .error x => CompFails M0 X.A X.xe ce x s'
theorem lc_run {Cn : Cx → Prop} {Z : L2.St → Hp → Prop} {pins : List (Addr × Obj)} {s : Shared} {σ : L2.St} {H : Hp} {Q : VK} {use : Option (Value → Sem Unit)} {Qf : Value → Shared → Prop} (P : LcP Cn Z X w W L tg iter elt ifs scope own mi btg mc me) (I : Inv X pins σ H s) (hz : Z σ H) (h : tM X w W (RD w) (lcM mi btg mc me) σ H Q)
    (hRR : ∀ (p : Addr) (ce : Env) (s' : Shared) (m : Str → Option Value) (H' : Hp), Inv X pins σ H' s' → Q (.ref p) H' → s'.heap.Ns ce.locals m → FpOk X pins H' ce.locals → compEnds (model X.prog X.w) X.A X.xe use Qf (.ref p) ce (.ok .next) s') :
    wpAny (model X.prog X.w) X.A (comprehension (.ListComp elt [⟨tg, iter, ifs, 0⟩] scope pos) scope X.env pos' (newList []) false (eval iter X.env) use) Qf X.xe s := by
  have ok := P.ok
  have hfree : ∀ y ∈ scope.names, y.2 = .free → ∃ c, X.env.cells.lookup y.1 = some c := fun y hy e => I.ok.has _ (ok.free y hy e)
  obtain ⟨fr, c, rfl, hf, hs, hp⟩ := h
  refine comprehension_at (use := use) rfl P.set (closure_ok hfree) ok.kind (fun y hy e => (ok.uniq y hy).trans (congrArg some e)) ?_
  refine thn (P.it.run pins s σ c.H _ I ⟨hz, fr, c, rfl, hf, hs, hp.bn⟩) fun xv s1 hx => thn hx fun itv s2 h2 => ?_
  obtain ⟨ita, fp, tn, J, H2, rfl, I2, T, st2, f2, it, c1, rfl, mo1, hs1, ri, hp1⟩ := h2
  obtain ⟨hsz, hp1⟩ := PostM.grd hp1
  have hsz : it.1.length ≤ sizeLine := of_decide_eq_true hsz
  refine wpAny_newObj_type (newEnv_comp ?_) (by show 0 ≤ sizeLine; decide)
  generalize hD : s2.heap.objs.size = p
  have pn : c1.H p = none := I2.hok.fresh (Nat.le_of_eq hD)
  generalize e3 : ({ s2 with heap := s2.heap.push { cls := .type "list", data := .seq ([] : List Value).toArray } } : Shared) = s3
  have h3 : s3.heap = s2.heap.push { cls := .type "list", data := .seq ([] : List Value).toArray } := by rw [← e3]
  have I3 : Inv X pins σ (upd c1.H p (.lst [])) s3 := by
    rw [← e3]
    refine I2.laid (t' := s2.toks) (fun b o e => Heap.get?_push_of_some _ e) (Nat.le_of_eq hD) ⟨Nat.zero_le _, [], 0, Paired.nil, ?_⟩
    rw [← hD]
    exact Heap.get?_push_size _ rfl
  have f3 : ∀ b ∈ fp, FpOk X pins (upd c1.H p (.lst [])) b ∧ b < s3.heap.objs.size := fun b hb => by
    obtain ⟨o, e, _⟩ := T.obj _ _ st2 b hb
    have hlt := Heap.lt_size e
    refine ⟨⟨?_, (f2 b hb).2⟩, ?_⟩
    · rw [upd_ne (by rw [← hD]; exact Nat.ne_of_lt hlt)]
      exact (f2 b hb).1
    · rw [h3, Heap.size_push]
      exact Nat.lt_succ_of_lt hlt
  have st3 : tn 0 s3.heap := T.keep _ _ _ st2 fun b _ o e => by rw [h3]; exact Heap.get?_push_of_some _ e
  show codeAny _ _ (.compStart (.ListComp elt [⟨tg, iter, ifs, 0⟩] scope pos) 0 (.ref ita) (.ref p) (compEnvC scope (cellsFrom (s3.heap.objs.size + 1) scope.names (cloFrom X.env.cells scope.names [])) s3.heap.objs.size X.env)) (compEnds (model X.prog X.w) X.A X.xe use Qf (.ref p) (compEnvC scope (cellsFrom (s3.heap.objs.size + 1) scope.names (cloFrom X.env.cells scope.names [])) s3.heap.objs.size X.env)) { s3 with heap := pushCells (s3.heap.push { cls := .type "dict", data := .dict #[] }) scope.names }
  have I4 := block_start I3 ok P.nd f3
  generalize hce : compEnvC scope (cellsFrom (s3.heap.objs.size + 1) scope.names (cloFrom X.env.cells scope.names [])) s3.heap.objs.size X.env = ce at I4 ⊢
  have cL : ce.locals = s3.heap.objs.size := by rw [← hce]; rfl
  have cF : ce.frame = X.env.frame := by rw [← hce]; rfl
  have cS : ce.scope = relS scope X.env.scope := by rw [← hce]; rfl
  generalize hc3 : (⟨c1.φ, upd c1.H p (.lst []), c1.st⟩ : Cf) = c3
  have c3H : c3.H = upd c1.H p (.lst []) := by rw [← hc3]
  have c3φ : c3.φ = c1.φ := by rw [← hc3]
  have c3s : c3.st = c1.st := by rw [← hc3]
  have m13 : Mono [] c1 c3 := by rw [← hc3]; exact Mono.fresh pn
  have hs3 : SR w c3 := by rw [← hc3]; exact hs1.fresh pn
  have hf3 : FrR X w fr σ c3 := (hf.mono mo1).mono m13
  rw [← c3H] at I3 f3 I4
  have S3 : SR (inner X w s3) c3 := sr_in I3 hf3 hs3
  have rel : BlkR X w W L scope (Blk X s3 c3.H scope ce fp) (inner X w s3) (fun cls d _ H => W cls d σ H) :=
    ⟨rfl, rfl, rfl, rfl, rfl, rfl, rfl, rfl, cS, rfl, thr_blk P.thr I3 cL cF f3, inner_same, rfl, fun l a o hk => by
      obtain ⟨k1, k2, k3, k4⟩ := kc_in P.kc I3 hk
      exact ⟨k1, k2, k3, fun hm => k4 a (f3 a hm).1 rfl⟩⟩
  obtain ⟨pg, pt, pe⟩ := P.blk _ _ _ rel
  have I4 : Inv (Blk X s3 c3.H scope ce fp) [] (wipe σ (own.map (·.2))) c3.H { s3 with heap := pushCells (s3.heap.push { cls := .type "dict", data := .dict #[] }) scope.names } := I4.wish (blkE X ce)
  generalize e4 : ({ s3 with heap := pushCells (s3.heap.push { cls := .type "dict", data := .dict #[] }) scope.names } : Shared) = s4 at I4 ⊢
  have st4 : tn 0 s4.heap := T.keep _ _ _ st3 fun b _ o e => by rw [← e4]; exact pushCells_keeps _ _ _ _ (Heap.get?_push_of_some _ e)
  have nfp : ∀ b ∈ fp, c3.H b = none := fun b hb => (f3 b hb).1.1
  generalize hwb : inner X w s3 = wb at S3 pg pt pe rel
  have hS : ∀ c, SR wb c → SR w c := fun c hc => sr_out (s := s3) (X := X) (by rw [hwb]; exact hc)
  have cnb : Cn (Blk X s3 c3.H scope ce fp) := P.cn _ _ _ _ _ _ I3 f3
  generalize hXb : Blk X s3 c3.H scope ce fp = Xb at I4 pg pt pe rel cnb
  have stat : ∀ {σ' : L2.St} {H' : Hp} {s' : Shared}, Inv Xb [] σ' H' s' → (∀ b ∈ fp, H' b = none) → ∀ b ∈ fp, FpOk Xb [] H' b := fun {σ' H' s'} I' hn b hb => by
    have e1 : Xb.ex = fp := by rw [← hXb]
    have e2 : Xb.pn = [] := by rw [← hXb]
    have hb' : b ∈ Xb.ex := by rw [e1]; exact hb
    refine ⟨hn b hb, (I'.ok.exf b hb').1, I'.ok.exfs b hb', .inl hb', fun x c e => (I'.ok.exf b hb').2 x c e, fun q hq => ?_⟩
    rw [e2] at hq
    cases hq
  have xN : (Xb.N = X.N ∧ Xb.prog = X.prog ∧ Xb.w = X.w ∧ Xb.K = X.K ∧ Xb.calm = X.calm ∧ Xb.A = X.A) := ⟨rel.N, rel.prog, rel.wd, rel.K, rel.calm, rel.A⟩
  have xx : Xb.xe = blkE X ce := by rw [← hXb]
  have xE : Xb.env = ce := by rw [← hXb]
  have loop : codeAny (model X.prog X.w) X.A (.compLoop (.ListComp elt [⟨tg, iter, ifs, 0⟩] scope pos) 0 (.ref ita) (.ref p) ce) (outR (model X.prog X.w) X use Qf (.ref p) ce) s4 := by
    refine compLoop_any (fun n s' => ∃ i c' acc xs, n = it.1.length - i ∧ Inv Xb [] (wipe σ (own.map (·.2))) c'.H s' ∧ tn i s'.heap ∧ (∀ b ∈ fp, c'.H b = none) ∧ Lp wb w btg fr.ρ mc me it c1 p Q (WE W σ) i c' acc xs) ?_ it.1.length ?_
    · rintro n s5 ⟨i, c5, acc, xs, rfl, I5, st5, n5, lp⟩
      have ime : Ime ⟨c1.φ, c1.H, []⟩ c5 := ⟨lp.mo.pre, lp.mo.imm⟩
      rcases Nat.lt_or_ge i it.1.length with hlt | hge
      · -- a turn
        have hd : it.1.drop i = it.1[i] :: it.1.drop (i + 1) := List.drop_eq_getElem_cons hlt
        have hgo := lp.go
        rw [hd, lcGo_cons] at hgo
        obtain ⟨hck, hgo⟩ := Post.ck hgo
        obtain ⟨go, yl⟩ := (ri c5 i ime (hS _ lp.sr) hck).1 it.1[i] (List.getElem?_eq_getElem hlt)
        have ti := T.item Xb xN.2.1 xN.2.2.1 xN.2.2.2.1 cnb i [] s5 _ c5.H (fun _ _ => False) I5 (stat I5 n5) st5 go
        rw [xN.2.2.2.2.2] at ti
        refine thnF ti fun r s6 ⟨u, hr, h6⟩ => ?_
        subst hr
        refine thnF h6 fun _ s7 ⟨x, H7, I7, r7, y7, st7, n7⟩ => ?_
        obtain ⟨rfl, rx⟩ := yl x H7 y7
        have I7' := I7.pinned (stat I7 n7) (T.obj _ _ st7)
        -- the target
        unfold lcTurn at hgo
        rw [bnd_assoc] at hgo
        have hf0 : FrR Xb wb { ρ := wipeL fr.ρ btg.slots, cp := [] } (wipe σ (own.map (·.2))) c5 := by
          refine ⟨by rw [wipeL_len, wipe_length]; exact hf.len, fun j d e => ?_, fun j l e => (by cases e), fun l hl => (by rw [rel.own] at hl; cases hl)⟩
          obtain ⟨e1, e2⟩ := wipeL_some e
          obtain ⟨v, g1, g2⟩ := hf.val j d e1
          exact ⟨v, by rw [wipe_keep (by rw [P.sl]; exact e2)]; exact g1, (g2.mono (mo1.trans lp.mo)).vw rel.same⟩
        have rx' : Rep wb c5.φ c5.H it.1[i] x := rx.vw rel.same
        obtain ⟨fr1, st1, eb⟩ : ∃ fr1 st1, bindT btg it.1[i] { ρ := wipeL fr.ρ btg.slots, cp := [] } c5.st = .ok fr1 st1 := by
          rcases bindT_noex (a := btg) (d := it.1[i]) (fr := { ρ := wipeL fr.ρ btg.slots, cp := [] }) (st := c5.st) with e | e
          · exact e
          · unfold bnd at hgo
            simp only [e] at hgo
            exact False.elim hgo
        have hgo1 : Post w (RD w) c1 (bnd (bnd (mc fr1) tst) (fun t => bnd (match t with
            | true => bnd (me fr1) fun w => ret (some w)
            | false => ret none) fun o => bnd (lcGo (lcTurn btg fr.ρ mc me) (chk it.2) (it.1.drop (i + 1))) fun ds => alloc (.lst ((acc ++ o.toList) ++ ds))) st1) Q (WE W σ) := by
          unfold bnd at hgo
          simp only [eb] at hgo
          unfold bnd
          revert hgo
          cases mc fr1 st1 with
          | ok d st2 =>
            cases d with
            | bl t => exact fun z => z
            | _ => exact fun z => False.elim z
          | ex x st2 => exact fun z => z
          | no => exact fun z => z
        have pgr := pg.run _ s7 _ c5.H x u (fun σ8 H8 => ∃ c8, c8.H = H8 ∧ c8.φ = c5.φ ∧ c8.st = st1 ∧ Mono [] c5 c8 ∧ SR wb c8 ∧ FrR Xb wb fr1 σ8 c8 ∧ wipe σ8 (own.map (·.2)) = wipe σ (own.map (·.2))) I7' r7 ⟨_, c5, it.1[i], rfl, hf0, lp.sr, rx', fr1, st1, eb, fun σ8 B => ⟨⟨c5.φ, c5.H, st1⟩, rfl, rfl, rfl, by
          have := B.mono
          rw [rel.own] at this
          exact this, B.sr, B.fr, by
          refine List.ext_getElem? fun j => ?_
          by_cases hj : j ∈ own.map (·.2)
          · have key : ∀ (τ : L2.St) (vs : List Nat), j ∈ vs → (wipe τ vs)[j]? = if j < τ.length then some none else none := fun τ vs => by
              induction vs with
              | nil => intro h; cases h
              | cons v vs ih =>
                intro h
                unfold wipe
                by_cases e : v = j
                · subst e
                  rw [List.getElem?_set, wipe_length]
                  simp
                · rw [List.getElem?_set_ne e]
                  exact ih (by
                    rcases List.mem_cons.mp h with z | z
                    · exact absurd z.symm e
                    · exact z)
            rw [key _ _ hj, key _ _ hj, B.len, wipe_length]
          · rw [wipe_keep hj, wipe_keep hj, B.out j (by rw [← P.sl]; exact hj), wipe_keep hj]⟩⟩
        rw [xN.2.1, xN.2.2.1, xN.2.2.2.2.2, xE, xx] at pgr
        refine wpAny_mono pgr (fun _ s8 ⟨σ8, H8, I8, c8, e8, φ8, s8', m8, S8, hf8, hw8⟩ => ?_) fun _ _ z => z
        subst e8
        rw [← s8'] at hgo1
        have M8 : Mono [] c1 c8 := lp.mo.trans m8
        have ptr := pt.run _ s8 σ8 c8.H _ I8 ⟨fr1, c8, rfl, hf8, S8, hgo1.bnV (R' := RB) M8 rel.same hS⟩
        rw [xN.2.1, xN.2.2.1, xN.2.2.2.2.2, xE, xx] at ptr
        refine wpAny_mono ptr (fun b s9 ⟨H9, I9, b', c9, e9, m9, S9, rb, hgo2⟩ => ?_) fun _ _ z => z
        subst e9
        obtain rfl : b' = b := rb
        -- the turn's end
        have fin : ∀ {s' : Shared} {c' : Cf} {acc' : List D} {xs' : List V}, Inv Xb ([] ++ pinsAt fp s7.heap) σ8 c'.H s' → Lp wb w btg fr.ρ mc me it c1 p Q (WE W σ) (i + 1) c' acc' xs' →
            ∃ m, m < it.1.length - i ∧ ∃ i c' acc xs, m = it.1.length - i ∧ Inv Xb [] (wipe σ (own.map (·.2))) c'.H s' ∧ tn i s'.heap ∧ (∀ b ∈ fp, c'.H b = none) ∧ Lp wb w btg fr.ρ mc me it c1 p Q (WE W σ) i c' acc xs := fun {s' c' acc' xs'} I' lp' => by
          have pin' : ∀ b ∈ fp, ∀ o, s7.heap.get? b = some o → s'.heap.get? b = some o ∧ c'.H b = none := fun b hb o e =>
            let z := I'.pin (b, o) (List.mem_append_right _ (List.mem_append_right _ (mem_pinsAt hb e)))
            ⟨z.1, z.2.1⟩
          have hl : (wipe σ (own.map (·.2))).length = σ8.length := by rw [← hw8, wipe_length]
          refine ⟨it.1.length - (i + 1), by omega, i + 1, c', acc', xs', rfl, (I'.unpinned (pins := [])).weak hl (fun j v e => ?_), T.keep _ _ _ st7 fun b hb o e => (pin' b hb o e).1, fun b hb => ?_, lp'⟩
          · rw [← hw8] at e
            exact (wipe_some e).1
          · obtain ⟨o, e, _⟩ := T.obj _ _ st7 b hb
            exact (pin' b hb o e).2
        have M9 : Mono [] c1 c9 := M8.trans m9
        have m59 : Mono [] c5 c9 := m8.trans m9
        have at9 : c9.H p = some (.lst xs) := m59.oth p _ lp.at_ lp.off rfl
        have off9 : ¬ On c9 p := fun z => by
          rcases m59.new p z with q | q
          · exact lp.off q
          · rw [lp.at_] at q; cases q
        have rep9 : RepL wb c9.φ c9.H acc xs := lp.rep.mono m59
        cases b' with
        | false =>
          simp only [Bool.false_eq_true, if_false]
          refine fin I9 ⟨hlt, S9, M9, at9, off9, rep9, Nat.le_succ_of_le lp.few, ?_⟩
          have : (acc ++ (none : Option D).toList) = acc := by simp
          have z : Post w (RD w) c1 (bnd (lcGo (lcTurn btg fr.ρ mc me) (chk it.2) (it.1.drop (i + 1))) (fun ds => alloc (.lst ((acc ++ (none : Option D).toList) ++ ds))) c9.st) Q (WE W σ) := hgo2
          rw [this] at z
          exact z
        | true =>
          simp only [if_true]
          have hgo3 : Post w (RD w) c1 (bnd (me fr1) (fun o => bnd (lcGo (lcTurn btg fr.ρ mc me) (chk it.2) (it.1.drop (i + 1))) fun ds => alloc (.lst ((acc ++ [o]) ++ ds))) c9.st) Q (WE W σ) := by
            have z : Post w (RD w) c1 (bnd (bnd (me fr1) fun w => ret (some w)) (fun o => bnd (lcGo (lcTurn btg fr.ρ mc me) (chk it.2) (it.1.drop (i + 1))) fun ds => alloc (.lst ((acc ++ o.toList) ++ ds))) c9.st) Q (WE W σ) := hgo2
            rw [bnd_assoc] at z
            exact z
          have per := pe.run _ s9 σ8 c9.H _ I9 ⟨fr1, c9, rfl, hf8.mono m9, S9, hgo3.bnV (R' := RD wb) M9 rel.same hS⟩
          rw [xN.2.1, xN.2.2.1, xN.2.2.2.2.2, xE, xx] at per
          refine wpAny_mono per (fun zv s10 ⟨yv, H10, I10, r10, d10, c10, e10, m10, S10, rd10, hgo4⟩ => ?_) fun _ _ z => z
          subst e10
          have m5 : Mono [] c5 c10 := m59.trans m10
          have at10 : c10.H p = some (.lst xs) := m10.oth p _ at9 off9 rfl
          have off10 : ¬ On c10 p := fun z => by
            rcases m10.new p z with q | q
            · exact off9 q
            · rw [at9] at q; cases q
          have rep10 : RepL wb c10.φ c10.H acc xs := rep9.mono m10
          have few : xs.length < sizeLine := by
            rw [← lp.rep.length]
            have := lp.few
            omega
          have ap := app_ok (E := blkE X ce) (Q := fun _ s11 => ∃ m, m < it.1.length - i ∧ ∃ i c' acc xs, m = it.1.length - i ∧ Inv Xb [] (wipe σ (own.map (·.2))) c'.H s11 ∧ tn i s11.heap ∧ (∀ b ∈ fp, c'.H b = none) ∧ Lp wb w btg fr.ρ mc me it c1 p Q (WE W σ) i c' acc xs) I10 at10 few r10 fun s11 I11 => by
            refine fin (c' := ⟨c10.φ, upd c10.H p (.lst (xs ++ [yv])), c10.st⟩) (acc' := acc ++ [d10]) (xs' := xs ++ [yv]) I11 ⟨hlt, S10.side at10 off10, (M9.trans m10).side pn, upd_same, off10, ?_, by simp; exact lp.few, hgo4⟩
            exact RepL.ime (c := c10) (c' := ⟨c10.φ, upd c10.H p (.lst (xs ++ [yv])), c10.st⟩) (Ime.side at10) (rep10.append (.cons rd10 RepL.nil))
          rw [xN.2.1, xN.2.2.1, xN.2.2.2.2.2] at ap
          exact ap
      · -- the end
        have hd : it.1.drop i = [] := List.drop_eq_nil_of_le hge
        have hgo := lp.go
        rw [hd] at hgo
        unfold lcGo at hgo
        rw [bnd_assoc] at hgo
        obtain ⟨hck, hgo⟩ := Post.ck hgo
        have stop := (ri c5 i ime (hS _ lp.sr) hck).2 hge
        have td := T.done Xb xN.2.1 xN.2.2.1 xN.2.2.2.1 cnb i [] s5 _ c5.H (fun _ _ => False) I5 (stat I5 n5) st5 stop
        rw [xN.2.2.2.2.2] at td
        refine thnF td fun r s6 ⟨hr, I6⟩ => ?_
        subst hr
        subst hXb
        have I7 : Inv X pins σ c5.H s6 := I3.call' (ch := fp) I6.os I6.base I6.hok I6.bare fun b hb => ⟨(f3 b hb).1.2.2.2.1, (f3 b hb).1.2.1, (f3 b hb).1.2.2.2.2.1, (f3 b hb).1.2.2.2.2.2⟩
        have nC : c5.H ce.locals = none := I6.free
        obtain ⟨m, hn, _⟩ := I6.loc
        have hQ : Q (.ref p) c5.H := by
          have z : Post w (RD w) c1 (.ok (.loc c5.st.length) (c5.st ++ [.lst (acc ++ [])])) Q (WE W σ) := hgo
          rw [List.append_nil] at z
          refine z (c5.φ ++ [p]) c5.H (.ref p) (lp.mo.adopt pn lp.sr.len) ((hS _ lp.sr).adopt lp.at_ lp.off (lp.rep.vw rel.same.symm)) (rep_loc.mpr ⟨p, rfl, ?_⟩)
          rw [← lp.sr.len]
          simp
        exact hRR p ce s6 m c5.H I7 hQ hn (I3.fpOk (b := ce.locals) (Nat.le_of_eq cL.symm) nC)
    · refine ⟨0, c3, [], [], rfl, I4, st4, nfp, Nat.zero_le _, S3, m13, by rw [c3H, upd_same], ?_, RepL.nil, Nat.le_refl _, ?_⟩
      · rintro ⟨l, b, e, t, f⟩
        rw [c3s] at e
        rw [c3φ] at f
        obtain ⟨u, hu⟩ := (hs1.ob l b p e f).there t
        rw [pn] at hu
        cases hu
      · rw [c3s]
        exact hp1
  refine codeAny_mono (codeAny_compStart_list loop (T.self X.A 0 _ _ _ st4 loop)) fun r s' hr => ?_
  cases r with
  | ok f => cases use <;> exact hr
  | error x => cases use <;> exact hr
end
end MI

set_option Elab.async false
set_option linter.all false
set_option maxRecDepth 100000
set_option maxHeartbeats 8000000
/-! MINI, part 17: statements. -/
namespace MI
open PySem PySem.Spec PyProof.Rows L2
section
variable {X : Cx} {w : Vw} {W : WX}
/-- what a statement's end is to reach -/
def PostS (X : Cx) (w : Vw) (W : WX) (c : Cf) (r : Option (Out × Store)) (D : Ends) : Prop := match r with
  | none => False
  | some (.nx fr, st) => ∀ (φ : List Addr) (H : Hp) (σ : L2.St), Mono w.own c ⟨φ, H, st⟩ → SR w ⟨φ, H, st⟩ → FrR X w fr σ ⟨φ, H, st⟩ → D.nx σ H
  | some (.bk fr, st) => ∀ (φ : List Addr) (H : Hp) (σ : L2.St), Mono w.own c ⟨φ, H, st⟩ → SR w ⟨φ, H, st⟩ → FrR X w fr σ ⟨φ, H, st⟩ → D.bk σ H
  | some (.ct fr, st) => ∀ (φ : List Addr) (H : Hp) (σ : L2.St), Mono w.own c ⟨φ, H, st⟩ → SR w ⟨φ, H, st⟩ → FrR X w fr σ ⟨φ, H, st⟩ → D.ct σ H
  | some (.rt d, st) => ∀ (φ : List Addr) (H : Hp) (v : V), Mono w.own c ⟨φ, H, st⟩ → SR w ⟨φ, H, st⟩ → Rep w φ H d v → D.rt v H
  | some (.xx x fr, st) => ∀ (φ : List Addr) (H : Hp) (σ : L2.St) (cls : Value) (da : Option Addr), Mono w.own c ⟨φ, H, st⟩ → SR w ⟨φ, H, st⟩ → FrR X w fr σ ⟨φ, H, st⟩ → ExR w φ H x cls da → W cls da σ H
def tS (X : Cx) (w : Vw) (W : WX) (m : Fr → S) : TS := fun D σ H => ∃ fr c, c.H = H ∧ FrR X w fr σ c ∧ SR w c ∧ PostS X w W c (m fr c.st) D
theorem Mono.ow {ex : List Nat} {a b : Cf} (h : Mono [] a b) : Mono ex a b := h.wide fun l z => by cases z
theorem PostS.later {c c' : Cf} {r : Option (Out × Store)} {D : Ends} (m : Mono w.own c c') (h : PostS X w W c r D) : PostS X w W c' r D := by
  cases r with
  | none => exact h
  | some p =>
    obtain ⟨o, st⟩ := p
    cases o with
    | nx fr => exact fun φ H σ m' s f => h φ H σ (m.trans m') s f
    | bk fr => exact fun φ H σ m' s f => h φ H σ (m.trans m') s f
    | ct fr => exact fun φ H σ m' s f => h φ H σ (m.trans m') s f
    | rt d => exact fun φ H v m' s f => h φ H v (m.trans m') s f
    | xx x fr => exact fun φ H σ cls da m' s f e => h φ H σ cls da (m.trans m') s f e
/-- an expression first -/
theorem PostS.ex {α β : Type} {R : RR α β} {c : Cf} {m : M α} {fr : Fr} {σ : L2.St} {f : α → S} {D : Ends} (h : PostS X w W c (exS m fr f c.st) D) (hf : FrR X w fr σ c) :
    PostM w R c m (fun v H' => ∃ d c', c'.H = H' ∧ Mono [] c c' ∧ SR w c' ∧ FrR X w fr σ c' ∧ R c'.φ c'.H d v ∧ PostS X w W c' (f d c'.st) D) (WE W σ) := by
  unfold exS at h
  unfold PostM
  cases e : m c.st with
  | ok d st =>
    simp only [e] at h
    exact fun φ H v mo s r => ⟨d, ⟨φ, H, st⟩, rfl, mo, s, hf.mono mo, r, h.later mo.ow⟩
  | ex x st =>
    simp only [e] at h
    exact fun φ H cls da mo s r => h φ H σ cls da mo.ow s (hf.mono mo) r
  | no =>
    simp only [e] at h
    exact h.elim
theorem ts_ex {α β : Type} {R : RR α β} {m : Fr → M α} {f : Fr → α → S} {D : Ends} {σ : L2.St} {H : Hp} (h : tS X w W (fun fr => exS (m fr) fr (f fr)) D σ H) {P : β → Hp → Prop}
    (k : ∀ fr d v c, FrR X w fr σ c → SR w c → R c.φ c.H d v → PostS X w W c (f fr d c.st) D → P v c.H) : tM X w W R m σ H P := by
  obtain ⟨fr, c, rfl, hf, hs, hp⟩ := h
  exact ⟨fr, c, rfl, hf, hs, Post.imp (hp.ex hf) fun v H' ⟨d, c', e, mo, s', f', r, q⟩ => by
    subst e
    exact k fr d v c' f' s' r q⟩
def seqS (a b : Fr → S) : Fr → S := fun fr st => match a fr st with
  | some (.nx fr', st') => b fr' st'
  | o => o
theorem PostS.seq {c : Cf} {r : Option (Out × Store)} {b : Fr → S} {D : Ends} (h : PostS X w W c (match r with
    | some (.nx fr', st') => b fr' st'
    | o => o) D) : PostS X w W c r { D with nx := fun σ H => tS X w W b D σ H } := by
  cases r with
  | none => exact h
  | some p =>
    obtain ⟨o, st⟩ := p
    cases o with
    | nx fr => exact fun φ H σ m s f => ⟨fr, ⟨φ, H, st⟩, rfl, f, s, PostS.later m h⟩
    | _ => exact h
variable {sts : List Stmt} {st1 : Stmt} {m1 m2 : Fr → S} {pos : Pos}
theorem mss_nil : PSs X [] (tS X w W fun fr => nxS fr) := PSs.imp pss_nil fun D σ H ⟨fr, c, e, hf, hs, hp⟩ => by
  subst e
  exact hp c.φ c.H σ (Mono.refl _) hs hf
theorem mss_cons (h1 : PS X st1 (tS X w W m1)) (h2 : PSs X sts (tS X w W m2)) : PSs X (st1 :: sts) (tS X w W (seqS m1 m2)) := PSs.imp (pss_cons h1 h2) fun D σ H ⟨fr, c, e, hf, hs, hp⟩ => ⟨fr, c, e, hf, hs, PostS.seq hp⟩
theorem mss_one (h1 : PS X st1 (tS X w W m1)) : PSs X [st1] (tS X w W m1) := pss_one h1
theorem ms_pass : PS X (.Pass pos) (tS X w W fun fr => nxS fr) := PS.imp ps_pass fun D σ H ⟨fr, c, e, hf, hs, hp⟩ => by
  subst e
  exact hp c.φ c.H σ (Mono.refl _) hs hf
theorem ms_brk : PS X (.Break pos) (tS X w W fun fr st => some (.bk fr, st)) := PS.imp ps_break fun D σ H ⟨fr, c, e, hf, hs, hp⟩ => by
  subst e
  exact hp c.φ c.H σ (Mono.refl _) hs hf
theorem ms_cnt : PS X (.Continue pos) (tS X w W fun fr st => some (.ct fr, st)) := PS.imp ps_continue fun D σ H ⟨fr, c, e, hf, hs, hp⟩ => by
  subst e
  exact hp c.φ c.H σ (Mono.refl _) hs hf
theorem ms_retN : PS X (.Return none pos) (tS X w W fun _ st => some (.rt .non, st)) := PS.imp ps_retN fun D σ H ⟨fr, c, e, hf, hs, hp⟩ => by
  subst e
  exact hp c.φ c.H .non (Mono.refl _) hs (rep_non.mpr rfl)
variable {e o i : Expr} {me mo mi : Fr → M D}
theorem ms_ret (he : PE X e (tM X w W (RD w) me)) : PS X (.Return (some e) pos) (tS X w W fun fr => exS (me fr) fr fun d st => some (.rt d, st)) := PS.imp (ps_ret he) fun D σ H h => ts_ex h fun fr d v c hf hs r hp => hp c.φ c.H v (Mono.refl _) hs r
theorem ms_expr (he : PE X e (tM X w W (RD w) me)) (hsw : swapsWith e none pos.line X.env = pure false) : PS X (.Expr e pos) (tS X w W fun fr => exS (me fr) fr fun _ => nxS fr) := PS.imp (ps_expr he hsw) fun D σ H h => by
  refine ts_ex (R := RD w) h fun fr d v c hf hs r hp => ?_
  exact hp c.φ c.H σ (Mono.refl _) hs hf
theorem ms_if {q : Expr} {a b : List Stmt} {mq : Fr → M D} (hq : PT X q (tM X w W RB fun fr => bnd (mq fr) tst)) (ha : PSs X a (tS X w W m1)) (hb : PSs X b (tS X w W m2)) :
    PS X (.If q a b pos) (tS X w W fun fr => exS (bnd (mq fr) tst) fr fun t => match t with
      | true => m1 fr
      | false => m2 fr) := PS.imp (ps_if hq ha hb) fun D σ H h => ts_ex h fun fr t v c hf hs r hp => by
  obtain rfl : t = v := r
  cases t with
  | true =>
    rw [if_pos rfl]
    exact ⟨fr, c, rfl, hf, hs, hp⟩
  | false =>
    rw [if_neg Bool.false_ne_true]
    exact ⟨fr, c, rfl, hf, hs, hp⟩
/-- bound, then the next -/
theorem PostS.bound {c : Cf} {tg : Tg} {d : D} {fr : Fr} {D : Ends} (h : PostS X w W c (exS (bindT tg d fr) fr (fun fr' => nxS fr') c.st) D) : ∃ fr' st', bindT tg d fr c.st = .ok fr' st' ∧ ∀ sl σ σ', Bound X w sl σ c fr' st' σ' → D.nx σ' c.H := by
  unfold exS at h
  rcases bindT_noex (a := tg) (d := d) (fr := fr) (st := c.st) with ⟨fr', st', e⟩ | e
  · simp only [e] at h
    exact ⟨fr', st', e, fun sl σ σ' B => h c.φ c.H σ' B.mono B.sr B.fr⟩
  · simp only [e] at h
    exact False.elim h
theorem exS_bnd {α β : Type} {m : M α} {g : α → M β} {fr : Fr} {f : β → S} : exS (bnd m g) fr f = exS m fr fun a => exS (g a) fr f := by
  funext st
  unfold exS bnd
  cases m st <;> rfl
theorem ms_asg {t : Expr} {tg : Tg} (he : PE X e (tM X w W (RD w) me)) (hg : PG X t (tB X w tg.slots (bindT tg))) (h1 : swapsWithSole [t] e pos.line X.env = pure false) (h2 : swappedStores [t] e X.env = pure none) (hst : PySem.W.isStarred t = false) :
    PS X (.Assign [t] e pos) (tS X w W fun fr => exS (bnd (me fr) fun d => bindT tg d fr) fr fun fr' => nxS fr') := PS.imp (ps_asg he hg h1 h2 (by rw [assign_each hst]; rfl)) fun D σ H h => by
  simp only [exS_bnd] at h
  refine ts_ex h fun fr d v c hf hs r hp => ?_
  obtain ⟨fr', st', eb, k⟩ := hp.bound
  exact ⟨fr, c, d, rfl, hf, hs, r, fr', st', eb, fun σ' B => k _ _ σ' B⟩
/-- y = [..] on one line -/
theorem ms_setLc {Cn : Cx → Prop} {L : Addr} {k : Nat} {y : Str} {py spos : Pos} {tg iter elt : Expr} {ifs : List Expr} {scope : Scope} {own : List (Str × Nat)} {mit : Fr → M (List D × List (Nat × List D))} {btg : Tg} {mc : Fr → M D} (P : LcP Cn AnyZ X w W L tg iter elt ifs scope own mit btg mc me)
    (hy : X.N[k]? = some y) (hyl : X.env.scope.names.lookup y = some .local) (hsw : swapsWith (.ListComp elt [⟨tg, iter, ifs, 0⟩] scope pos) (some (.Name y py)) spos.line X.env = pure true) :
    PS X (.Assign [.Name y py] (.ListComp elt [⟨tg, iter, ifs, 0⟩] scope pos) spos) (tS X w W fun fr => exS (bnd (lcM mit btg mc me fr) fun d => bindT (.nm k) d fr) fr fun fr' => nxS fr') := by
  refine ⟨fun pins s σ H D I h => ?_⟩
  rw [exec_Assign_Name_used _ _ _ _ hsw]
  refine wpAny_bind (wpAny_standAt (wpAny_bind ?_))
  show wpAny _ X.A (do let _ ← comprehension (.ListComp elt [⟨tg, iter, ifs, 0⟩] scope pos) scope X.env (firstIterPos [⟨tg, iter, ifs, 0⟩] pos) (newList []) false (eval iter X.env) (some (assign (.Name y py) X.env))) _ _ s
  simp only [exS_bnd] at h
  have h' : tM X w W (RD w) (lcM mit btg mc me) σ H fun v H1 => D.nx (σ.set k (some v)) H1 := ts_ex h fun fr d v c hf hs r hp => by
    obtain ⟨fr', st', eb, kk⟩ := hp.bound
    exact kk _ _ _ (set_bound P.nd I.ok (lt_of_get hy) I.len hf hs r eb)
  refine wpAny_bind (thn (lc_run (Qf := fun _ s' => SP X pins D .next s') P I trivial h' fun p ce s' m H' I' q hn f => ?_) fun _ s' hq => wpAny_pure (wpAny_pure hq))
  show wpAny _ _ (assign (.Name y py) X.env (.ref p)) _ _ _
  obtain ⟨f0, f1, f2, f3, f4, f5⟩ := f
  refine wpAny_assign_Name (store_ok2 (v := V.ref p) I' P.nd hy (.inl hyl) rfl (fun s2 I2 ⟨a, sb, ha⟩ => ?_) (.inr hyl))
  have haC : ce.locals ≠ a := by
    rcases ha with z | z
    · rw [z]
      exact f1
    · exact fun e => f4 y a z e.symm
  refine ⟨m, hn.sameBut sb haC, fun h3 sb3 => ⟨_, H', ?_, q⟩⟩
  exact I2.turned (t' := s2.toks) (fun b o hb e => (sb3.2 b hb).trans e) f0 f1 f3 f4 f5
theorem me_lcZ {Cn : Cx → Prop} {Z : L2.St → Hp → Prop} {L : Addr} {tg iter elt : Expr} {ifs : List Expr} {scope : Scope} {own : List (Str × Nat)} {mit : Fr → M (List D × List (Nat × List D))} {btg : Tg} {mc : Fr → M D} (P : LcP Cn Z X w W L tg iter elt ifs scope own mit btg mc me) :
    PE X (.ListComp elt [⟨tg, iter, ifs, 0⟩] scope pos) fun σ H Q => Z σ H ∧ tM X w W (RD w) (lcM mit btg mc me) σ H Q := by
  refine ⟨fun pins s σ H Q I ⟨hz, h⟩ => ?_⟩
  rw [eval_ListComp]
  refine lc_run P I hz h fun p ce s' m H' I' q hn f => ⟨m, hn, fun h'' sb => ?_⟩
  obtain ⟨f0, f1, f2, f3, f4, f5⟩ := f
  exact ⟨.ref p, H', I'.turned (t' := s'.toks) (fun b o hb e => (sb.2 b hb).trans e) f0 f1 f3 f4 f5, rfl, q⟩
theorem me_lc {Cn : Cx → Prop} {L : Addr} {tg iter elt : Expr} {ifs : List Expr} {scope : Scope} {own : List (Str × Nat)} {mit : Fr → M (List D × List (Nat × List D))} {btg : Tg} {mc : Fr → M D} (P : LcP Cn AnyZ X w W L tg iter elt ifs scope own mit btg mc me) :
    PE X (.ListComp elt [⟨tg, iter, ifs, 0⟩] scope pos) (tM X w W (RD w) (lcM mit btg mc me)) := PE.imp (me_lcZ P) fun σ H Q h => ⟨trivial, h⟩
def consM (u : D) (y : D) : M D := match y with
  | .tup ys => ret (.tup (u :: ys))
  | _ => no
def tupM (y : D) : M D := match y with
  | .tup ys => bnd (guard (decide (ys.length ≤ sizeLine))) fun _ => ret (.tup ys)
  | _ => no
/-- a pair, item by item -/
def pairM (a b : M D) : M D := bnd (bnd a fun u => bnd (bnd b fun v => bnd (ret (.tup [])) (consM v)) (consM u)) tupM
/-- a, b = x, y -/
theorem ms_par {a b : Expr} {k j : Nat} {x y : Str} {px py pt pt2 : Pos} {kt k2 : Nat} {ma mb : Fr → M D} (hc : X.calm = true) (hN : X.N.Nodup) (hi : X.N[k]? = some x) (hj : X.N[j]? = some y) (hij : k ≠ j) (hx : X.env.scope.names.lookup x = some .local) (hy : X.env.scope.names.lookup y = some .local)
    (ha : PE X a (tM X w W (RD w) ma)) (hb : PE X b (tM X w W (RD w) mb)) (hsa : PySem.W.isStarred a = false) (hsb : PySem.W.isStarred b = false)
    (hw : swappedStores [.Tuple [.Name x px, .Name y py] kt pt] (.Tuple [a, b] k2 pt2) X.env = pure (some [x, y])) :
    PS X (.Assign [.Tuple [.Name x px, .Name y py] kt pt] (.Tuple [a, b] k2 pt2) pos) (tS X w W fun fr => exS (bnd (pairM (ma fr) (mb fr)) fun d => bindT (.tup (.cons (.nm k) (.cons (.nm j) .nil))) d fr) fr fun fr' => nxS fr') := by
  have s2 : starEach [b] X.env = [(false, eval b X.env)] := (star_plain (pos := pos) (env := X.env) (es := []) fun z hz => by
    rcases List.mem_cons.mp hz with rfl | hz
    · exact hsb
    · cases hz).1
  have s1 : starEach [a, b] X.env = (false, eval a X.env) :: starEach [b] X.env := (star_plain (pos := pos) (env := X.env) (es := [b]) fun z hz => by
    rcases List.mem_cons.mp hz with rfl | hz
    · exact hsa
    · rcases List.mem_cons.mp hz with rfl | hz
      · exact hsb
      · cases hz).1
  refine ⟨fun pins s σ H D I h => (ps_par (pos := pos) hc hN hi hj hij hx hy (pa_cons ha (pa_cons hb pa_nil s2) s1) hw).run pins s σ H D I ?_⟩
  have h' : tS X w W (fun fr => exS (ma fr) fr fun u => exS (mb fr) fr fun v => exS (bindT (.cons (.nm k) (.cons (.nm j) .nil)) (.tup [u, v]) fr) fr fun fr' => nxS fr') D σ H := by
    obtain ⟨fr, c, e, hf, hs, hp⟩ := h
    refine ⟨fr, c, e, hf, hs, ?_⟩
    have key : ∀ st, exS (bnd (pairM (ma fr) (mb fr)) fun d => bindT (.tup (.cons (.nm k) (.cons (.nm j) .nil))) d fr) fr (fun fr' => nxS fr') st = exS (ma fr) fr (fun u => exS (mb fr) fr fun v => exS (bindT (.cons (.nm k) (.cons (.nm j) .nil)) (.tup [u, v]) fr) fr fun fr' => nxS fr') st := fun st => by
      unfold pairM exS bnd
      cases ma fr st with
      | ok u st1 =>
        simp only
        cases mb fr st1 with
        | ok v st2 => rfl
        | ex x st2 => rfl
        | no => rfl
      | ex x st1 => rfl
      | no => rfl
    exact Eq.mp (congrArg (fun r => PostS X w W c r D) (key c.st)) hp
  refine ts_ex h' fun fr u v c hf hs r hp => ⟨fr, c, rfl, hf, hs, Post.imp (hp.ex (R := RD w) hf) fun v2 H2 ⟨u2, c2, e2, mo2, s2', f2, r2, hp2⟩ => ⟨v, v2, rfl, ?_⟩⟩
  subst e2
  obtain ⟨fr', st', eb, kk⟩ := hp2.bound
  refine kk ([k] ++ ([j] ++ [])) σ _ ?_
  unfold bindT bnd at eb
  cases e1 : bindT (.nm k) u fr c2.st with
  | no => simp only [e1] at eb; cases eb
  | ex x st1 => simp only [e1] at eb; cases eb
  | ok fr1 st1 =>
    simp only [e1] at eb
    unfold bindT bnd at eb
    cases e3 : bindT (.nm j) u2 fr1 st1 with
    | no => simp only [e3] at eb; cases eb
    | ex x st3 => simp only [e3] at eb; cases eb
    | ok fr3 st3 =>
      simp only [e3] at eb
      cases eb
      have B1 := set_bound hN I.ok (lt_of_get hi) I.len f2 s2' (r.mono mo2) e1
      have B2 := set_bound (c := ⟨c2.φ, c2.H, st1⟩) hN I.ok (lt_of_get hj) (B1.len.trans I.len) B1.fr B1.sr r2 e3
      have B := B1.trans B2
      exact ⟨B.mono, B.sr, B.fr, B.len, fun z hz => B.out z (by simpa using hz)⟩
end
end MI

set_option Elab.async false
set_option linter.all false
set_option maxRecDepth 100000
set_option maxHeartbeats 8000000
/-! MINI, part 18: attributes set, items set, loops, raises. -/
namespace MI
open PySem PySem.Spec PyProof.Rows L2
section
variable {w : Vw} {φ : List Addr} {H : Hp}
theorem setF_put {f : Str} {d : D} {v : V} (r : Rep w φ H d v) : ∀ {fs : List (Str × D)} {gs : List (Str × V)}, RepF w φ H fs gs → RepF w φ H (setF fs f d) (putF f v gs)
  | [], [], _ => ⟨rfl, RepL.cons r RepL.nil⟩
  | [], _ :: _, h => by cases h.1
  | _ :: _, [], h => by cases h.1
  | (a, e) :: fs, (b, u) :: gs, h => by
    obtain ⟨h1, h2⟩ := h
    have h1 : a = b ∧ fs.map (·.1) = gs.map (·.1) := by simpa using h1
    obtain ⟨rfl, hh⟩ := h1
    obtain ⟨x, q, e2, h3, h4⟩ := RepL.cons_inv h2
    have e2 : u :: gs.map (·.2) = x :: q := e2
    injection e2 with e3 e4
    subst e3 e4
    unfold setF putF
    by_cases q : a = f
    · rw [if_pos q, if_pos q]
      exact ⟨by simp [hh], .cons r h4⟩
    · rw [if_neg q, if_neg q]
      obtain ⟨k1, k2⟩ := setF_put (f := f) r (fs := fs) (gs := gs) ⟨hh, h4⟩
      exact ⟨by simp [k1], .cons h3 k2⟩
end
section
variable {X : Cx} {w : Vw} {W : WX} {G : GP} {n : Nat} {c : Cf}
/-- an attribute set -/
theorem setfD_in {d y : D} {f : Str} {x : V} {fr : Fr} {D : Ends} {k : Unit → S} (s : SR w c) (r : Rep w c.φ c.H d x) (h : PostS X w W c (exS (setfD G d f y) fr k c.st) D) :
    ∃ a l c0 fs dx gs, d = .loc l ∧ x = .ref a ∧ c.φ[l]? = some a ∧ c.st[l]? = some (.ins c0 fs) ∧ c.H a = some (.ins (w.ca c0) dx gs) ∧ fldOk G c0 f = true ∧ gs.length < 1000 ∧ RepF w c.φ c.H fs gs ∧ PostS X w W c (k () (c.st.set l (.ins c0 (setF fs f y)))) D := by
  unfold exS setfD at h
  cases d with
  | loc l =>
    cases e : c.st[l]? with
    | none => simp only [e] at h; exact False.elim h
    | some o => cases o with
      | ins k fs =>
        simp only [e] at h
        by_cases q : fs.length < 1000 ∧ fldOk G k f = true
        · rw [if_pos q] at h
          obtain ⟨a, dx, gs, rfl, h1, h2, h3⟩ := ins_in s e r
          have hl : fs.length = gs.length := by
            have := congrArg List.length h3.1
            simpa using this
          exact ⟨a, l, k, fs, dx, gs, rfl, rfl, h1, e, h2, q.2, hl ▸ q.1, h3, h⟩
        · rw [if_neg q] at h
          exact False.elim h
      | _ => simp only [e] at h; exact False.elim h
  | _ => exact False.elim h
theorem fld_cls (S : Sta G n X w W) {c0 : Nat} {f : Str} (h : fldOk G c0 f = true) : Cls X.K (w.ca c0) ∧ NoAttr X.K (w.ca c0) f := by
  refine ⟨?_, S.noa c0 f h⟩
  unfold fldOk at h
  cases e : G.cls[c0]? with
  | none => rw [e] at h; cases h
  | some C => exact (S.gcl c0 C e).2.1
theorem wrote_fld {l a c0 : Nat} {fs : List (Str × D)} {dx : Addr} {gs : List (Str × V)} {f : Str} {y : D} {v : V} {fr : Fr} {σ : L2.St} {D : Ends} (hf : FrR X w fr σ c) (s : SR w c) (h1 : c.φ[l]? = some a) (h2 : c.st[l]? = some (.ins c0 fs)) (h3 : c.H a = some (.ins (w.ca c0) dx gs)) (h4 : RepF w c.φ c.H fs gs) (r : Rep w c.φ c.H y v)
    (h : PostS X w W c (nxS fr (c.st.set l (.ins c0 (setF fs f y)))) D) : D.nx σ (upd c.H a (.ins (w.ca c0) dx (putF f v gs))) := by
  have m : Mono [] c ⟨c.φ, upd c.H a (.ins (w.ca c0) dx (putF f v gs)), c.st.set l (.ins c0 (setF fs f y))⟩ := Mono.write h1 h2 rfl rfl h3 rfl rfl
  exact h c.φ _ σ m.ow (s.write h1 h2 rfl rfl rfl h3 rfl rfl ⟨dx, _, upd_same, (setF_put r h4).mono m⟩) (hf.mono m)
variable {e o i : Expr} {me mo mi : Fr → M D} {pos pos' tpos : Pos} {f : Str}
theorem ms_fld (S : Sta G n X w W) (he : PE X e (tM X w W (RD w) me)) (ho : PE X o (tM X w W (RD w) mo)) (hs : swapsWith e (some (.Attribute o f pos')) pos.line X.env = pure false) :
    PS X (.Assign [.Attribute o f pos'] e pos) (tS X w W fun fr => exS (bnd (me fr) fun d => bnd (mo fr) fun x => setfD G x f d) fr fun _ => nxS fr) := PS.imp (ps_fld ho he hs) fun D σ H h => by
  simp only [exS_bnd] at h
  refine ts_ex h fun fr d v c hf s r hp => ⟨fr, c, rfl, hf, s, Post.imp (hp.ex (R := RD w) hf) fun u H2 ⟨x, c2, e2, mo2, s2, f2, r2, hp2⟩ => ?_⟩
  subst e2
  obtain ⟨a, l, c0, fs, dx, gs, rfl, rfl, h1, h2, h3, h4, h5, h6, h7⟩ := setfD_in s2 r2 hp2
  exact ⟨a, w.ca c0, dx, gs, rfl, h3, (fld_cls S h4).1, (fld_cls S h4).2, h5, wrote_fld f2 s2 h1 h2 h3 h6 (r.mono mo2) h7⟩
def rAug (w : Vw) (op : Bop) : V → V → Hp → VK → Prop := fun x y H Q => match op with
  | .add => rAdd x y H Q
  | .sub => rSub x y H Q
  | _ => False
theorem in_aug (op : Bop) : InOp X (bopOf op) (rAug w op) := by
  cases op with
  | add => exact in_add
  | sub =>
    rintro pins s σ H x y u v Q I rx ry ⟨i, j, rfl, rfl, q⟩
    exact ip_sub pins s σ H _ _ u v Q I rx ry ⟨i, j, rfl, rfl, q⟩
  | _ => intro pins s σ H x y u v Q I rx ry h; exact False.elim h
theorem aug_in {op : Bop} {x y : D} {u v : V} {fr : Fr} {k : D → S} {D : Ends} (rx : Rep w c.φ c.H x u) (ry : Rep w c.φ c.H y v) (h : PostS X w W c (exS (augop op x y) fr k c.st) D) {Q : VK} (kk : ∀ z, PostS X w W c (k (.int z) c.st) D → Q (.int z) c.H) : rAug w op u v c.H Q := by
  unfold exS augop at h
  cases op <;> first
    | (cases x <;> first
        | (cases y <;> first
            | exact ⟨_, _, rep_int.mp rx, rep_int.mp ry, kk _ h⟩
            | exact False.elim h)
        | exact False.elim h)
    | exact False.elim h
theorem ms_fldaug (S : Sta G n X w W) (op : Bop) (he : PE X e (tM X w W (RD w) me)) (ho : PE X o (tM X w W (RD w) mo)) :
    PS X (.AugAssign (.Attribute o f tpos) (bopOf op) e pos) (tS X w W fun fr => exS (bnd (mo fr) fun x => bnd (attrD G x f) fun y => bnd (me fr) fun z => bnd (augop op y z) fun d => setfD G x f d) fr fun _ => nxS fr) := PS.imp (ps_fldaug ho he (in_aug (w := w) op)) fun D σ H h => by
  simp only [exS_bnd] at h
  refine ts_ex h fun fr x u c hf s r hp => ?_
  obtain ⟨fr0, hf0, hp⟩ : ∃ fr0, fr0 = fr ∧ PostS X w W c (exS (attrD G x f) fr (fun y => exS (me fr) fr fun z => exS (augop op y z) fr fun d => exS (setfD G x f d) fr fun _ => nxS fr) c.st) D := ⟨fr, rfl, hp⟩
  have h2 : PostM w (RD w) c (attrD G x f) (fun v H' => ∃ d c', c'.H = H' ∧ Mono [] c c' ∧ SR w c' ∧ FrR X w fr σ c' ∧ Rep w c'.φ c'.H d v ∧ PostS X w W c' (exS (me fr) fr (fun z => exS (augop op d z) fr fun d => exS (setfD G x f d) fr fun _ => nxS fr) c'.st) D) (WE W σ) := hp.ex hf
  have h2' : PostM w (RD w) c (bnd (attrD G x f) ret) (fun v H' => ∃ d c', c'.H = H' ∧ Mono [] c c' ∧ SR w c' ∧ FrR X w fr σ c' ∧ Rep w c'.φ c'.H d v ∧ PostS X w W c' (exS (me fr) fr (fun z => exS (augop op d z) fr fun d => exS (setfD G x f d) fr fun _ => nxS fr) c'.st) D) (WE W σ) := by rw [bnd_ret]; exact h2
  obtain ⟨l, k, fs, y, a, dx, gs, v, rfl, g1, rfl, g2, g3, g4, g5, g6, g7, g8⟩ := attr_in s r h2'
  obtain ⟨d, c', e1, m1, s1, f1, r1, hp1⟩ := PostM.rt (R := RD w) g8 s g7
  refine ⟨a, w.ca k, dx, gs, v, rfl, g4, (fld_cls S g3).1, (fld_cls S g3).2, g6, ⟨fr, c', e1, f1, s1, Post.imp (hp1.ex (R := RD w) f1) fun u2 H2 ⟨z, c2, e2, mo2, s2, f2, r2, hp2⟩ => ?_⟩⟩
  subst e2
  refine aug_in (r1.mono mo2) r2 hp2 fun z hp3 => ?_
  have rl : Rep w c2.φ c2.H (.loc l) (.ref a) := rep_loc.mpr ⟨a, rfl, mo2.pre l a (m1.pre l a g2)⟩
  obtain ⟨a', l', c0, fs', dx', gs', el, ea, h1, h2, h3, h4, h5, h6, h7⟩ := setfD_in s2 rl hp3
  cases ea
  cases el
  have ek : w.ca c0 = w.ca k := by
    obtain ⟨q1, q2⟩ := knd_ins (m1.trans mo2) g1
    rw [q2] at h2
    cases h2
    rfl
  refine ⟨dx', gs', ek ▸ h3, h5, ?_⟩
  have := wrote_fld (f := f) (y := .int z) (v := .int z) f2 s2 h1 h2 h3 h6 (rep_int.mpr rfl) h7
  rw [ek] at this
  exact this
end
end MI

set_option Elab.async false
set_option linter.all false
set_option maxRecDepth 100000
set_option maxHeartbeats 8000000
/-! MINI, part 19: items set, loops, raises. -/
namespace MI
open PySem PySem.Spec PyProof.Rows L2
section
variable {X : Cx} {w : Vw} {W : WX} {c : Cf} {e o i : Expr} {me mo mi : Fr → M D} {pos pos' tpos : Pos}
theorem ms_sub (he : PE X e (tM X w W (RD w) me)) (ho : PE X o (tM X w W (RD w) mo)) (hi : PE X i (tM X w W (RD w) mi)) (hsw : swapsWithSole [.Subscript o i pos'] e pos.line X.env = pure false) (hw : swappedStores [.Subscript o i pos'] e X.env = pure none)
    (ha : ∀ v, assign (.Subscript o i pos') X.env v = (do
      let ov ← holding [v] (eval o X.env)
      let iv ← holding [v, ov] (eval i X.env)
      standAt pos'
      holding [v, ov, iv] (setItem ov iv v)
      release [v, ov, iv] [])) :
    PS X (.Assign [.Subscript o i pos'] e pos) (tS X w W fun fr => exS (bnd (me fr) fun d => bnd (mo fr) fun x => bnd (mi fr) fun k => setiD x k d) fr fun _ => nxS fr) := PS.imp (ps_asg he (pg_sub ho hi set_list ha) hsw hw (by rfl)) fun D σ H h => by
  simp only [exS_bnd] at h
  refine ts_ex h fun fr d v c hf s r hp => ⟨fr, c, rfl, hf, s, Post.imp (hp.ex (R := RD w) hf) fun u H2 ⟨x, c2, e2, mo2, s2, f2, r2, hp2⟩ => ?_⟩
  subst e2
  refine ⟨fr, c2, rfl, f2, s2, Post.imp (hp2.ex (R := RD w) f2) fun u3 H3 ⟨k, c3, e3, mo3, s3, f3, r3, hp3⟩ => ?_⟩
  subst e3
  have rx := r2.mono mo3
  have rd := r.mono (mo2.trans mo3)
  unfold exS setiD at hp3
  cases x with
  | loc l => cases k with
    | int j =>
      cases e4 : c3.st[l]? with
      | none => simp only [e4] at hp3; exact False.elim hp3
      | some ob => cases ob with
        | lst xs =>
          simp only [e4] at hp3
          cases e5 : L2.ixN xs.length j with
          | none => simp only [e5] at hp3; exact False.elim hp3
          | some q =>
            simp only [e5] at hp3
            obtain ⟨a, rfl, h1⟩ := rep_loc.mp rx
            obtain ⟨vs, h2, h3⟩ := s3.ob l _ a e4 h1
            obtain ⟨m, s4⟩ := write_list (ds' := xs.set q d) (xs' := vs.set q v) s3 e4 h1 h2 (h3.set q rd)
            exact ⟨a, vs, j, q, rfl, rep_int.mp r3, h2, by rw [← h3.length]; exact e5, hp3 _ _ σ m.ow s4 (f3.mono m)⟩
        | _ => simp only [e4] at hp3; exact False.elim hp3
    | _ => exact False.elim hp3
  | _ => exact False.elim hp3
theorem ms_aug (op : Bop) {k : Nat} {x : Str} (hN : X.N.Nodup) (hi : X.N[k]? = some x) (hx : Loc X.env.scope x) (he : PE X e (tM X w W (RD w) me)) (hf : X.fn x = true ∨ X.env.scope.names.lookup x = some .local) :
    PS X (.AugAssign (.Name x pos') (bopOf op) e pos) (tS X w W fun fr => exS (bnd (ofO (fr.ρ[k]?.join)) fun x => bnd (me fr) fun y => bnd (augop op x y) fun z => fr.set k z) fr fun fr' => nxS fr') := by
  refine ⟨fun pins s σ H D I h => (ps_aug hN hi hx he (show PIp X (bopOf op) (rAug w op) from in_aug op) hf).run pins s σ H D I ?_⟩
  simp only [exS_bnd] at h
  obtain ⟨fr, c, rfl, hfr, hs, hp⟩ := h
  unfold exS ofO at hp
  cases q : fr.ρ[k]? with
  | none => simp only [q] at hp; exact False.elim hp
  | some oo => cases oo with
    | none => simp only [q] at hp; exact False.elim hp
    | some d =>
      simp only [q] at hp
      obtain ⟨v, g1, g2⟩ := hfr.val k d q
      have hp : PostS X w W c (exS (me fr) fr (fun y => exS (augop op d y) fr fun z => exS (fr.set k z) fr fun fr' => nxS fr') c.st) D := hp
      refine ⟨v, g1, fr, c, rfl, hfr, hs, Post.imp (hp.ex (R := RD w) hfr) fun u H2 ⟨y, c2, e2, mo2, s2, f2, r2, hp2⟩ => ?_⟩
      subst e2
      refine aug_in (g2.mono mo2) r2 hp2 fun z hp3 => ?_
      obtain ⟨fr', st', eb, kk⟩ := PostS.bound (tg := .nm k) hp3
      exact kk [k] σ _ (set_bound hN I.ok (lt_of_get hi) I.len f2 s2 (rep_int.mpr rfl) eb)
/-- a loop's turn -/
theorem PostS.turn {c : Cf} {r : Option (Out × Store)} {k : Fr → S} {D : Ends} (h : PostS X w W c (match r with
    | some (.nx fr', st') => k fr' st'
    | some (.ct fr', st') => k fr' st'
    | some (.bk fr', st') => some (.nx fr', st')
    | o => o) D) {N : L2.St → Hp → Prop} (hN : ∀ fr c' σ, Mono w.own c c' → SR w c' → FrR X w fr σ c' → PostS X w W c' (k fr c'.st) D → N σ c'.H) : PostS X w W c r { D with nx := N, ct := N, bk := D.nx } := by
  cases r with
  | none => exact h
  | some p =>
    obtain ⟨o, st⟩ := p
    cases o with
    | nx fr => exact fun φ H σ m s f => hN fr ⟨φ, H, st⟩ σ m s f (PostS.later m h)
    | ct fr => exact fun φ H σ m s f => hN fr ⟨φ, H, st⟩ σ m s f (PostS.later m h)
    | bk fr => exact h
    | rt d => exact h
    | xx x fr => exact h
theorem PostS.ck {c : Cf} {wl : List (Nat × List D)} {fr : Fr} {k : Unit → S} {D : Ends} (h : PostS X w W c (exS (chk wl) fr k c.st) D) : chk wl c.st = .ok () c.st ∧ PostS X w W c (k () c.st) D := by
  unfold exS at h
  rcases chk_ok (wl := wl) (st := c.st) with e | e
  · simp only [e] at h
    exact ⟨e, h⟩
  · simp only [e] at h
    exact False.elim h
theorem ms_for {tg iter : Expr} {btg : Tg} {body : List Stmt} {mit : Fr → M (List D × List (Nat × List D))} {mb : Fr → S} (hp : PassesOwn (model X.prog X.w) X.A X.env X.xe) (hc : X.calm = true) (hit : PI X tg iter (tM X w W (RI w) mit)) (hg : PG X tg (tB X w btg.slots (bindT btg)))
    (hb : PSs X body (tS X w W mb)) (hs : ∀ x, foldedSetIterable iter X.env x = pure x) :
    PS X (.For tg iter body [] pos) (tS X w W fun fr => exS (mit fr) fr fun it => forGo (chk it.2) (fun d fr1 => exS (bindT btg d fr1) fr1 fun fr2 => mb fr2) it.1 fr) := PS.imp (ps_for hp hc hit hg hb hs) fun D σ H h => by
  refine ts_ex h fun fr it J c1 hf hs1 ri hp1 => ?_
  refine ⟨fun i m σ H => ∃ fr c, c.H = H ∧ m = it.1.length - i ∧ i ≤ it.1.length ∧ Mono w.own c1 c ∧ SR w c ∧ FrR X w fr σ c ∧ PostS X w W c (forGo (chk it.2) (fun d fr1 => exS (bindT btg d fr1) fr1 fun fr2 => mb fr2) (it.1.drop i) fr c.st) D,
    ⟨it.1.length, fr, c1, rfl, by simp, Nat.zero_le _, Mono.refl _, hs1, hf, hp1⟩, ?_⟩
  rintro i m σ H ⟨fr, c, rfl, rfl, hi, mo, hs2, hf2, hp2⟩
  have ime : Ime ⟨c1.φ, c1.H, []⟩ c := ⟨mo.pre, mo.imm⟩
  rcases Nat.lt_or_ge i it.1.length with hlt | hge
  · have hd : it.1.drop i = it.1[i] :: it.1.drop (i + 1) := List.drop_eq_getElem_cons hlt
    rw [hd] at hp2
    unfold forGo at hp2
    obtain ⟨hck, hp2⟩ := PostS.ck hp2
    obtain ⟨go, yl⟩ := (ri c i ime hs2 hck).1 it.1[i] (List.getElem?_eq_getElem hlt)
    refine .inr ⟨go, fun σ' H' => ∃ m', m' < it.1.length - i ∧ ∃ fr c, c.H = H' ∧ m' = it.1.length - (i + 1) ∧ i + 1 ≤ it.1.length ∧ Mono w.own c1 c ∧ SR w c ∧ FrR X w fr σ' c ∧ PostS X w W c (forGo (chk it.2) (fun d fr1 => exS (bindT btg d fr1) fr1 fun fr2 => mb fr2) (it.1.drop (i + 1)) fr c.st) D, fun σ' H' z => z, fun x H' hy => ?_⟩
    obtain ⟨rfl, rx⟩ := yl x H' hy
    have hp3 := PostS.turn (N := fun σ' H' => ∃ m', m' < it.1.length - i ∧ ∃ fr c, c.H = H' ∧ m' = it.1.length - (i + 1) ∧ i + 1 ≤ it.1.length ∧ Mono w.own c1 c ∧ SR w c ∧ FrR X w fr σ' c ∧ PostS X w W c (forGo (chk it.2) (fun d fr1 => exS (bindT btg d fr1) fr1 fun fr2 => mb fr2) (it.1.drop (i + 1)) fr c.st) D) hp2 fun fr' c' σ' m' s' f' p' => ⟨it.1.length - (i + 1), by omega, fr', c', rfl, rfl, hlt, mo.trans m', s', f', p'⟩
    unfold exS at hp3
    rcases bindT_noex (a := btg) (d := it.1[i]) (fr := fr) (st := c.st) with ⟨fr', st', eb⟩ | eb
    · simp only [eb] at hp3
      exact ⟨fr, c, it.1[i], rfl, hf2, hs2, rx, fr', st', eb, fun σ' B => ⟨fr', ⟨c.φ, c.H, st'⟩, rfl, B.fr, B.sr, hp3.later B.mono⟩⟩
    · simp only [eb] at hp3
      exact False.elim hp3
  · have hd : it.1.drop i = [] := List.drop_eq_nil_of_le hge
    rw [hd] at hp2
    unfold forGo at hp2
    obtain ⟨hck, hp2⟩ := PostS.ck hp2
    exact .inl ⟨(ri c i ime hs2 hck).2 hge, hp2 c.φ c.H σ (Mono.refl _) hs2 hf2⟩
theorem ms_while {q : Expr} {body : List Stmt} {mq : Fr → M D} {mb : Fr → S} {most : Nat} (hp : PassesOwn (model X.prog X.w) X.A X.env X.xe) (hq : PT X q (tM X w W RB fun fr => bnd (mq fr) tst)) (hb : PSs X body (tS X w W mb)) :
    PS X (.While q body [] pos) (tS X w W fun fr => whlGo (fun fr1 => bnd (mq fr1) tst) (fun fr1 => mb fr1) most fr) := PS.imp (ps_while hp hq hb) fun D σ H h => by
  obtain ⟨fr, c, rfl, hf, hs, hp⟩ := h
  refine ⟨fun m σ H => ∃ fr c, c.H = H ∧ FrR X w fr σ c ∧ SR w c ∧ PostS X w W c (whlGo (fun fr1 => bnd (mq fr1) tst) (fun fr1 => mb fr1) m fr c.st) D, ⟨most, fr, c, rfl, hf, hs, hp⟩, ?_⟩
  rintro m σ H ⟨fr, c, rfl, hf, hs, hp⟩
  cases m with
  | zero => exact False.elim hp
  | succ m =>
    unfold whlGo at hp
    refine ⟨fr, c, rfl, hf, hs, Post.imp (hp.ex (R := RB) hf) fun b H' ⟨t, c', e, mo, s', f', r', hp'⟩ => ?_⟩
    subst e
    obtain rfl : t = b := r'
    cases t with
    | false =>
      rw [if_neg Bool.false_ne_true]
      exact hp' c'.φ c'.H σ (Mono.refl _) s' f'
    | true =>
      rw [if_pos rfl]
      refine ⟨fun σ' H' => ∃ m', m' < m + 1 ∧ ∃ fr c, c.H = H' ∧ FrR X w fr σ' c ∧ SR w c ∧ PostS X w W c (whlGo (fun fr1 => bnd (mq fr1) tst) (fun fr1 => mb fr1) m' fr c.st) D, fun σ' H' z => z, fr, c', rfl, f', s', PostS.turn hp' fun fr2 c2 σ2 m2 s2 f2 p2 => ⟨m, Nat.lt_succ_self m, fr2, c2, rfl, f2, s2, p2⟩⟩
/-- an exception made of one value -/
def tMk (X : Cx) (w : Vw) (W : WX) (k : Nat) (ma : Fr → M D) : L2.St → Hp → XK → Prop := fun σ H Q => tM X w W (RD w) ma σ H fun v H1 => ∀ q, H1 q = none → Q (.ref (w.xa k)) (some q) (upd H1 q (.xd [("what", v), ("word", .str (w.xn k))]))
theorem ms_raise {k : Nat} (hc : X.calm = true) (tk : L2N.Takes X W) (he : L2N.PMk X e (tMk X w W k me)) :
    PS X (.Raise (some e) none pos) (tS X w W fun fr => exS (me fr) fr fun d st => some (.xx ⟨k, d⟩ fr, st)) := PS.imp (L2N.ps_raise hc tk he) fun D σ H h => ts_ex h fun fr d v c hf hs r hp q hq => by
  have m : Mono [] c ⟨c.φ, upd c.H q (.xd [("what", v), ("word", .str (w.xn k))]), c.st⟩ := Mono.fresh hq
  exact hp _ _ σ _ _ m.ow (hs.fresh hq) (hf.mono m) ⟨q, v, rfl, rfl, upd_same, r.mono m⟩
end
end MI

set_option Elab.async false
set_option linter.all false
set_option maxRecDepth 100000
set_option maxHeartbeats 8000000
/-! MINI, part 20: is this syntax that term. -/
namespace MI
open PySem PySem.Spec PyProof.Rows L2
def visB (sc : Scope) (x : Str) : Bool := match sc.names.lookup x with
  | some .local => true
  | some .cell => true
  | some .free => true
  | _ => false
def locB (sc : Scope) (x : Str) : Bool := match sc.names.lookup x with
  | some .local => true
  | _ => false
def celB (sc : Scope) (x : Str) : Bool := match sc.names.lookup x with
  | some .cell => true
  | _ => false
def constB : D → Const → Bool
  | .non, .none => true
  | .bl a, .bool b => a == b
  | .int a, .int b => a == b
  | .str a, .str b => decide (a = b)
  | _, _ => false
def gvB (G : GP) (x : Str) : D → Bool
  | .int i => decide (G.cints.lookup x = some i)
  | .str s => decide (G.cstrs.lookup x = some s)
  | _ => false
def attrB : Expr → Bool
  | .Call (.Name _ _) [] [] _ => false
  | _ => true
def plainB : Expr → Bool
  | .Slice _ _ _ _ => false
  | _ => true
def iterB : Expr → Bool
  | .Set _ _ _ => false
  | _ => true
def funB (G : GP) (f : Nat) (x : Str) : Bool := match G.funs[f]? with
  | some F => decide (F.path.1 = x) && F.path.2.isNone
  | none => false
def clsB (G : GP) (c : Nat) (x : Str) : Bool := match G.cls[c]? with
  | some C => decide (C.name = x)
  | none => false
def allSt : List Expr → Bool
  | [] => true
  | e :: es => !PySem.W.isStarred e && allSt es
/-- may stand as a test -/
def testB : CE → Bool
  | .ife _ _ _ => false
  | .and a b => testB a && testB b
  | .or a b => testB a && testB b
  | .not a => testB a
  | _ => true
mutual
/-- a target's names with their slots -/
def own1 (t : Tg) (e : Expr) : List (Str × Nat) := match t with
  | .nm i => match e with
    | .Name x _ => [(x, i)]
    | _ => []
  | .tup a => match e with
    | .Tuple es _ _ => ownS a es
    | _ => []
  | _ => []
def ownS (t : Tg) (es : List Expr) : List (Str × Nat) := match t with
  | .cons a b => match es with
    | e :: es => own1 a e ++ ownS b es
    | [] => []
  | _ => []
end
mutual
/-- a target -/
def mT (N : List Str) (d : Bool) (sc : Scope) (t : Tg) (e : Expr) : Bool := match t with
  | .nm i => match e with
    | .Name x _ => decide (N[i]? = some x) && (locB sc x || (d && celB sc x))
    | _ => false
  | .tup a => match e with
    | .Tuple es _ _ => mTs N d sc a es
    | _ => false
  | _ => false
def mTs (N : List Str) (d : Bool) (sc : Scope) (t : Tg) (es : List Expr) : Bool := match t with
  | .nil => match es with
    | [] => true
    | _ => false
  | .cons a b => match es with
    | e :: es => !PySem.W.isStarred e && mT N d sc a e && mTs N d sc b es
    | [] => false
  | _ => false
end
def yesB : CE → Bool
  | .yes => true
  | _ => false
def mI (G : GP) (sc : Scope) (k : Ik) (ma mb : Expr → Bool) (y : Bool) (it : Expr) : Bool := match k with
  | .seq => y && ma it && iterB it
  | .rng1 => match it with
    | .Call (.Name x _) [a] [] _ => y && decide (x = "range") && glB sc "range" && decide (("range" : Str) ∈ G.cfree) && ma a && !PySem.W.isStarred a
    | _ => false
  | .rng2 => match it with
    | .Call (.Name x _) [a, b] [] _ => decide (x = "range") && glB sc "range" && decide (("range" : Str) ∈ G.cfree) && ma a && !PySem.W.isStarred a && mb b && !PySem.W.isStarred b
    | _ => false
  | _ => false
abbrev LmB := Nat → List Nat → Arguments → Expr → Scope → Bool
mutual
def mE (G : GP) (N : List Str) (lm : LmB) (d : Bool) (sc : Scope) (e : CE) (x : Expr) : Bool := match e with
  | .var i => match x with
    | .Name y _ => decide (N[i]? = some y) && visB sc y && nmB y
    | _ => false
  | .c v => match x with
    | .Constant k _ _ => constB v k
    | _ => false
  | .gv y v => match x with
    | .Name z _ => decide (y = z) && glB sc z && nmB z && gvB G z v
    | _ => false
  | .bin op a b => match x with
    | .BinOp l o r _ => decide (bopOf op = o) && mE G N lm d sc a l && mE G N lm d sc b r
    | _ => false
  | .cmp op a b => match x with
    | .Compare l [o] [r] _ => decide (copOf op = o) && !behindInMarks o r && mE G N lm d sc a l && mE G N lm d sc b r
    | _ => false
  | .chain op op' a b c => match x with
    | .Compare l [o, o'] [r, r'] _ => decide (copOf op = o) && decide (copOf op' = o') && !behindInMarks o' r' && mE G N lm d sc a l && mE G N lm d sc b r && mE G N lm d sc c r'
    | _ => false
  | .neg a => match x with
    | .UnaryOp .USub y _ => mE G N lm d sc a y
    | _ => false
  | .not a => match x with
    | .UnaryOp .Not y _ => mE G N lm d sc a y
    | _ => false
  | .and a b => match x with
    | .BoolOp .And (y :: z :: r) p => mE G N lm d sc a y && (match r with
      | [] => mE G N lm d sc b z
      | r => mE G N lm d sc b (.BoolOp .And (z :: r) p))
    | _ => false
  | .or a b => match x with
    | .BoolOp .Or (y :: z :: r) p => mE G N lm d sc a y && (match r with
      | [] => mE G N lm d sc b z
      | r => mE G N lm d sc b (.BoolOp .Or (z :: r) p))
    | _ => false
  | .ife c a b => match x with
    | .IfExp q y z _ => testB c && mE G N lm d sc c q && mE G N lm d sc a y && mE G N lm d sc b z
    | _ => false
  | .nil => false
  | .cons _ _ => false
  | .tup a => match x with
    | .Tuple es _ _ => mL G N lm d sc a es
    | _ => false
  | .lst a => match x with
    | .List es _ => mL G N lm d sc a es
    | _ => false
  | .idx a b => match x with
    | .Subscript y z _ => plainB z && mE G N lm d sc a y && mE G N lm d sc b z
    | _ => false
  | .sl a lo hi => match x with
    | .Subscript y (.Slice l h none _) _ => mE G N lm d sc a y && mP G N lm d sc lo l && mP G N lm d sc hi h
    | _ => false
  | .part _ => false
  | .attr a f => match x with
    | .Attribute y g _ => decide (f = g) && attrB y && mE G N lm d sc a y
    | _ => false
  | .call y f as => match x with
    | .Call (.Name z _) es [] _ => decide (y = z) && glB sc z && nmB z && funB G f z && mL G N lm d sc as es
    | _ => false
  | .callv _ _ => false
  | .make y c as => match x with
    | .Call (.Name z _) es [] _ => decide (y = z) && glB sc z && nmB z && clsB G c z && mL G N lm d sc as es
    | _ => false
  | .meth o m as => match x with
    | .Call (.Attribute y m' ap) es [] p => decide (m = m') && attrB y && (ap.endLine == p.line) && decide (es.length < 29) && mE G N lm d sc o y && mL G N lm d sc as es
    | _ => false
  | .bi b as => match x with
    | .Call (.Name z _) (e1 :: es) [] _ => decide (z = (biN b).1) && glB sc z && decide (z ∈ G.cfree) && mL G N lm d sc as (e1 :: es)
    | _ => false
  | .isi a T => match x with
    | .Call (.Name z _) [y, .Name t _] [] _ => decide (z = "isinstance") && glB sc z && decide (z ∈ G.cfree) && !ownTy T && decide (t = Str.ofString (tyN T)) && glB sc t && decide (t ∈ G.cfree) && !PySem.W.isStarred y && mE G N lm d sc a y
    | _ => false
  | .lc k a b tg c elt => match x with
    | .ListComp y [⟨t, it, ifs, az⟩] scope _ => decide (az = 0) && blkC N sc scope (own1 tg t) && decide ((own1 tg t).map (·.2) = tg.slots) && mT N false (relS scope sc) tg t && mI G sc k (mE G N lm d sc a) (mE G N lm d sc b) (yesB b) it &&
        (match ifs with
          | [] => yesB c
          | [q] => testB c && mE G N lm false (relS scope sc) c q
          | _ => false) && mE G N lm false (relS scope sc) elt y
    | _ => false
  | .lam k caps => match x with
    | .Lambda ps body scope _ => d && lm k caps ps body scope
    | _ => false
  | .consT _ _ => false
  | .consU _ _ => false
  | .rep _ _ _ _ => false
  | .yes => false
def mL (G : GP) (N : List Str) (lm : LmB) (d : Bool) (sc : Scope) (e : CE) (xs : List Expr) : Bool := match e with
  | .nil => match xs with
    | [] => true
    | _ => false
  | .cons a b => match xs with
    | x :: xs => !PySem.W.isStarred x && mE G N lm d sc a x && mL G N lm d sc b xs
    | [] => false
  | .consT s b => match xs with
    | .Constant (.str z) _ _ :: xs => decide (s = z) && mLT G N lm d sc b xs
    | _ => false
  | _ => false
/-- behind a written text -/
def mLT (G : GP) (N : List Str) (lm : LmB) (d : Bool) (sc : Scope) (e : CE) (xs : List Expr) : Bool := match e with
  | .consU a b => match xs with
    | x :: xs => !PySem.W.isStarred x && mE G N lm d sc a x && mLT G N lm d sc b xs
    | [] => false
  | .rep o y z b => match xs with
    | .Call (.Attribute u m ap) [.Constant (.str y') _ _, .Constant (.str z') _ _] [] p :: xs => decide (m = "replace") && decide (y = y') && decide (z = z') && !(y == z) && attrB u && (ap.endLine == p.line) && mE G N lm d sc o u && mL G N lm d sc b xs
    | _ => false
  | _ => false
def mP (G : GP) (N : List Str) (lm : LmB) (d : Bool) (sc : Scope) (e : CE) (x : Option Expr) : Bool := match e with
  | .c .non => x.isNone
  | .part a => match x with
    | some x => mE G N lm d sc a x
    | none => false
  | _ => false
end
theorem attr_base {o : Expr} (h : attrB o = true) (f : Str) (env : Env) (whole : Sem Value) : attributeBase o f env whole = whole := by
  unfold attributeBase
  split
  · cases h
  · rfl
theorem plain_ix {b : Expr} (h : plainB b = true) : PlainIx b := by
  intro o i
  unfold subscripted
  split
  · cases h
  · rename_i z
    cases z
  · rfl
theorem iter_set {e : Expr} (h : iterB e = true) (env : Env) : ∀ x, foldedSetIterable e env x = pure x := fun x => by
  unfold foldedSetIterable
  split
  · cases h
  · rfl
theorem all_st : ∀ {es : List Expr}, allSt es = true → ∀ y ∈ es, PySem.W.isStarred y = false
  | [], _, y, h => by cases h
  | e :: es, h, y, hy => by
    unfold allSt at h
    rw [Bool.and_eq_true] at h
    rcases List.mem_cons.mp hy with rfl | hy
    · simpa using h.1
    · exact all_st h.2 y hy
theorem vis_of {sc : Scope} {x : Str} (h : visB sc x = true) : Vis sc x := by
  unfold visB at h
  split at h
  · exact .inl (by assumption)
  · exact .inr (.inl (by assumption))
  · exact .inr (.inr (by assumption))
  · cases h
theorem gl_of {sc : Scope} {x : Str} (h : glB sc x = true) : sc.names.lookup x = some .globalImplicit := by
  unfold glB at h
  split at h
  · assumption
  · cases h
theorem loc_of {sc : Scope} {x : Str} (h : locB sc x = true) : sc.names.lookup x = some .local := by
  unfold locB at h
  split at h
  · assumption
  · cases h
theorem cel_of {sc : Scope} {x : Str} (h : celB sc x = true) : sc.names.lookup x = some .cell := by
  unfold celB at h
  split at h
  · assumption
  · cases h
theorem nm_of {x : Str} (h : nmB x = true) : (x == ("__debug__" : Str)) = false ∧ (x == ("__classdict__" : Str)) = false := by
  unfold nmB at h
  simpa using h
end MI

set_option Elab.async false
set_option linter.all false
set_option maxRecDepth 100000
set_option maxHeartbeats 8000000
/-! MINI, part 21: syntax that matches is read as the term. -/
namespace MI
open PySem PySem.Spec PyProof.Rows L2
/-- the program's own facts -/
structure Bas where
  prog : Program
  wd : World
  K : PySem.W.Frag
  mg : Str → Option Value
  base : Heap
  w : Vw
structure Good (B : Bas) (n : Nat) (X : Cx) (w : Vw) (W : WX) (L : Addr) : Prop where
  prog : X.prog = B.prog
  wd : X.w = B.wd
  K : X.K = B.K
  mg : X.mg = B.mg
  base : X.base = B.base
  view : Same B.w w
  calm : X.calm = true
  nd : X.N.Nodup
  room : Room (2 * n + 2) X.A
  thr : Thr X L W
  kc : Kc X w
theorem Good.blk {B : Bas} {n : Nat} {X Xb : Cx} {w wb : Vw} {W Wb : WX} {L : Addr} {scope : Scope} (g : Good B n X w W L) (r : BlkR X w W L scope Xb wb Wb) : Good B n Xb wb Wb L :=
  ⟨r.prog.trans g.prog, r.wd.trans g.wd, r.K.trans g.K, r.mg.trans g.mg, r.base.trans g.base, g.view.trans r.same, r.calm.trans g.calm, by rw [r.N]; exact g.nd, by rw [r.A]; exact g.room, r.thr, r.kc⟩
structure Ctx (G : GP) (B : Bas) (n : Nat) (lm : LmB) (N : List Str) (d : Bool) (sc : Scope) (X : Cx) (w : Vw) (W : WX) (L : Addr) : Prop where
  good : Good B n X w W L
  N_ : X.N = N
  sc_ : X.env.scope = sc
  fnd : d = true → X.fn = fun _ => true
  lam : d = true → ∀ k caps ps body scope pos, lm k caps ps body scope = true → PE X (.Lambda ps body scope pos) (tM X w W (RD w) fun fr => match capsL fr.cp caps with
    | some ls => ret (.clo k ls)
    | none => no)
section
variable {X : Cx} {w : Vw} {W : WX}
/-- a value tested -/
theorem tst_val {m : Fr → M D} {σ : L2.St} {H : Hp} {Q : Bool → Hp → Prop} (h : tM X w W RB (fun fr => bnd (m fr) tst) σ H Q) : tM X w W (RD w) m σ H fun v H' => ∃ k, v = .bl k ∧ Q k H' := by
  refine tM_bnd h fun fr d v c hf hs hr hp => ?_
  cases d with
  | bl t => exact ⟨t, rep_bl.mp hr, PostM.rt (R := RB) hp hs rfl⟩
  | _ => exact hp.elim
variable {a b q : Expr} {ma mb mc : Fr → M D} {pos : Pos}
theorem mt_cmp (hK : w.K = X.K) (hu : X.A.units + 64 < cLine) (op : Cop) (hm : behindInMarks (copOf op) b = false) (ha : PE X a (tM X w W (RD w) ma)) (hb : PE X b (tM X w W (RD w) mb)) :
    PT X (.Compare a [copOf op] [b] pos) (tM X w W RB fun fr => bnd (bnd (ma fr) fun x => bnd (mb fr) fun y => cmpop op x y) tst) :=
  PT.imp (pt_cmpR (or_cmp hK hu op) ha hb hm) fun σ H Q h => tM_bnd2 (tst_val h) fun x y v u c s r1 r2 hp => ⟨x, y, c, _, rfl, s, r1, r2, hp⟩
theorem chain_rd (hK : w.K = X.K) (hu : X.A.units + 64 < cLine) (op op' : Cop) {σ : L2.St} {H : Hp} {Q : VK} (h : tM X w W (RD w) (fun fr => bnd (ma fr) fun x => bnd (mb fr) fun y => bnd (cmpop op x y) fun z => bnd (tst z) fun t => match t with
      | true => bnd (mc fr) fun u => cmpop op' y u
      | false => ret (.bl false)) σ H Q) : tChain (r2 w (cmpop op)) (r2 w (cmpop op')) (tM X w W (RD w) ma) (tM X w W (RD w) mb) (tM X w W (RD w) mc) σ H Q := by
  refine tM_bnd h fun fr x v c hf hs hr hp => tM_of hf hs (Post.imp hp.bn fun u H2 ⟨y, c2, e2, mo, s2, r2, hp2⟩ => ?_)
  subst e2
  refine ⟨x, y, c2, _, rfl, s2, hr.mono mo, r2, Post.imp (hp2.bn (R' := RD w)) fun z H3 ⟨z', c3, e3, mo3, s3, r3, hp3⟩ => ?_⟩
  subst e3
  obtain ⟨t, rfl, _, hp3⟩ := tst_in r3 hp3
  refine ⟨t, rfl, ?_⟩
  cases t with
  | true =>
    rw [if_pos rfl]
    exact tM_of (hf.mono (mo.trans mo3)) s3 (Post.imp hp3.bn fun u' H4 ⟨y', c4, e4, mo4, s4, r4, hp4⟩ => by
      subst e4
      exact ⟨y, y', c4, _, rfl, s4, r2.mono (mo3.trans mo4), r4, hp4⟩)
  | false =>
    rw [if_neg Bool.false_ne_true]
    exact PostM.rt (R := RD w) hp3 s3 (rep_bl.mpr rfl)
theorem mt_chain (hK : w.K = X.K) (hu : X.A.units + 64 < cLine) (op op' : Cop) (hm' : behindInMarks (copOf op') q = false) (ha : PE X a (tM X w W (RD w) ma)) (hb : PE X b (tM X w W (RD w) mb)) (hq : PE X q (tM X w W (RD w) mc)) :
    PT X (.Compare a [copOf op, copOf op'] [b, q] pos) (tM X w W RB fun fr => bnd (bnd (ma fr) fun x => bnd (mb fr) fun y => bnd (cmpop op x y) fun z => bnd (tst z) fun t => match t with
      | true => bnd (mc fr) fun u => cmpop op' y u
      | false => ret (.bl false)) tst) :=
  PT.imp (pt_chain (or_cmp hK hu op) (or_cmp hK hu op') ha hb hq hm') fun σ H Q h => chain_rd hK hu op op' (tst_val h)
/-- the test of an and, an or does not look at the value -/
theorem pw_of {op : BoolOp} {es : List Expr} {t : TT} (h : PT X (.BoolOp op es pos) t) : PW X (.BoolOp op es pos) t := ⟨fun wh pins s σ H Q I q => h.run pins s σ H Q I q⟩
theorem me_one {op : BoolOp} (h : PE X a (tM X w W (RD w) ma)) : PE X (.BoolOp op [a] pos) (tM X w W (RD w) ma) := pe_one h
end
section
variable {G : GP} {N : List Str} {lm : LmB} {d : Bool} {sc : Scope}
theorem mE_star {e : CE} {x : Expr} (h : mE G N lm d sc e x = true) : PySem.W.isStarred x = false := by
  cases x with
  | Starred v p =>
    unfold mE at h
    cases e <;> exact Bool.noConfusion h
  | _ => rfl
mutual
theorem mL_star : ∀ {e : CE} {xs : List Expr}, mL G N lm d sc e xs = true → ∀ y ∈ xs, PySem.W.isStarred y = false
  | e, [], _, y, hy => by cases hy
  | e, x :: xs, h, y, hy => by
    unfold mL at h
    cases e with
    | cons a b =>
      simp only [Bool.and_eq_true, Bool.not_eq_true'] at h
      rcases List.mem_cons.mp hy with rfl | hy
      · exact h.1.1
      · exact mL_star h.2 y hy
    | consT s b =>
      simp only at h
      split at h
      · rename_i e
        cases e
        simp only [Bool.and_eq_true] at h
        rcases List.mem_cons.mp hy with rfl | hy
        · rfl
        · exact mLT_star h.2 y hy
      · cases h
    | _ => exact Bool.noConfusion h
theorem mLT_star : ∀ {e : CE} {xs : List Expr}, mLT G N lm d sc e xs = true → ∀ y ∈ xs, PySem.W.isStarred y = false
  | e, [], _, y, hy => by cases hy
  | e, x :: xs, h, y, hy => by
    unfold mLT at h
    cases e with
    | consU a b =>
      simp only [Bool.and_eq_true, Bool.not_eq_true'] at h
      rcases List.mem_cons.mp hy with rfl | hy
      · exact h.1.1
      · exact mLT_star h.2 y hy
    | rep o u z b =>
      simp only at h
      split at h
      · rename_i e
        cases e
        simp only [Bool.and_eq_true] at h
        rcases List.mem_cons.mp hy with rfl | hy
        · rfl
        · exact mL_star h.2 y hy
      · cases h
    | _ => exact Bool.noConfusion h
end
end
end MI

set_option Elab.async false
set_option linter.all false
set_option maxRecDepth 100000
set_option maxHeartbeats 16000000
/-! MINI, part 22: expressions that match are read as the evaluator says. -/
namespace MI
open PySem PySem.Spec PyProof.Rows L2
/-- a method's call, with few plain arguments on its own line -/
theorem meth_tree {o : Expr} {m : Str} {ap p : Pos} {es : List Expr} {env : Env} (h1 : attrB o = true) (h2 : (ap.endLine == p.line) = true) (h3 : ∀ y ∈ es, PySem.W.isStarred y = false) (h4 : es.length < 29) :
    ∃ pl : Sem Bool, eval (.Call (.Attribute o m ap) es [] p) env = (do
      let ov ← eval o env
      standAt ap.atName
      let (f, first) ← holding [ov] (getMethod ov m pl)
      callWith p f first (backTo p (starEach es env)) (backToKw p (keywordEach [] env))) := by
  refine ⟨(do return (← importBound o env).getD true), ?_⟩
  have hf : methodCallForm (es.length + ([] : List Keyword).length) (backTo p (starEach es env)) (backToKw p (keywordEach [] env)) = true := few_ok h3 h4
  show (do let ov ← attributeBase o m env (eval o env); standAt ap.atName; methodCall o m ap p env ov (es.length + ([] : List Keyword).length) (backTo p (starEach es env)) (backToKw p (keywordEach [] env))) = _
  rw [attr_base h1]
  unfold methodCall methodCallPos calleeOf
  rw [hf]
  simp only [h2, if_true, Bool.not_true, Bool.false_or, pure_bind]
section
variable (G : GP) (B : Bas) (n : Nat) (lm : LmB) (N : List Str)
noncomputable abbrev EV (e : CE) : Fr → M D := ev G (calls G n).1 (calls G n).2 e
structure Rd (e : CE) : Prop where
  ex : ∀ d sc X w W L x, Ctx G B n lm N d sc X w W L → mE G N lm d sc e x = true → PE X x (tM X w W (RD w) (EV G n e)) ∧ (testB e = true → PT X x (tM X w W RB fun fr => bnd (EV G n e fr) tst))
  ls : ∀ d sc X w W L xs, Ctx G B n lm N d sc X w W L → mL G N lm d sc e xs = true → PA X xs (tM X w W (RL w) (EV G n e))
  op : ∀ d sc X w W L x, Ctx G B n lm N d sc X w W L → mP G N lm d sc e x = true → ∃ t, MO X w W x (EV G n e) t
  lt : ∀ d sc X w W L xs, Ctx G B n lm N d sc X w W L → mLT G N lm d sc e xs = true → PAT X xs (tM X w W (RL w) (EV G n e)) := by exact fun d sc X w W L xs _ q => by cases (show false = true from q)
variable {G B n lm N}
theorem noL {e : CE} (h : ∀ d sc xs, mL G N lm d sc e xs = false) : ∀ d sc X w W L xs, Ctx G B n lm N d sc X w W L → mL G N lm d sc e xs = true → PA X xs (tM X w W (RL w) (EV G n e)) := fun d sc X w W L xs _ q => by
  rw [h] at q
  cases q
theorem noP {e : CE} (h : ∀ d sc x, mP G N lm d sc e x = false) : ∀ d sc X w W L x, Ctx G B n lm N d sc X w W L → mP G N lm d sc e x = true → ∃ t, MO X w W x (EV G n e) t := fun d sc X w W L x _ q => by
  rw [h] at q
  cases q
theorem dfl {X : Cx} {w : Vw} {W : WX} {x : Expr} {m : Fr → M D} {p : Prop} (h : PE X x (tM X w W (RD w) m)) (he : ∀ whole, isTrue x X.env whole = (do let v ← whole; standAt x.pos; holding [v] (truthy v))) :
    PE X x (tM X w W (RD w) m) ∧ (p → PT X x (tM X w W RB fun fr => bnd (m fr) tst)) := ⟨h, fun _ => mt_of h he⟩
variable (hS : ∀ X w W L, Good B n X w W L → Sta G n X w W)
include hS
theorem rd_var (i : Nat) : Rd G B n lm N (.var i) where
  ls := noL fun _ _ _ => rfl
  op := noP fun _ _ _ => rfl
  ex := fun d sc X w W L x C h => by
    unfold mE at h
    split at h
    · simp only [Bool.and_eq_true, decide_eq_true_eq] at h
      obtain ⟨h1, h2⟩ := nm_of h.2
      exact dfl (me_var (by rw [C.N_]; exact h.1.1) (by rw [C.sc_]; exact vis_of h.1.2) h1 h2) fun _ => rfl
    · cases h
theorem rd_c (v : D) : Rd G B n lm N (.c v) where
  ls := noL fun _ _ _ => rfl
  op := fun d sc X w W L x C h => by
    cases v with
    | non =>
      have : x = none := by simpa [mP] using h
      subst this
      exact ⟨_, mo_none⟩
    | _ => exact absurd h (by simp [mP])
  ex := fun d sc X w W L x C h => by
    unfold mE at h
    split at h
    · rename_i k _ _
      unfold constB at h
      split at h
      · exact dfl (me_const pe_non fun _ _ => rep_non.mpr rfl) fun _ => rfl
      · have e := eq_of_beq h
        subst e
        exact dfl (me_const pe_bl fun _ _ => rep_bl.mpr rfl) fun _ => rfl
      · have e := eq_of_beq h
        subst e
        exact dfl (me_const pe_int fun _ _ => rep_int.mpr rfl) fun _ => rfl
      · have e := of_decide_eq_true h
        subst e
        exact dfl (me_const pe_str fun _ _ => rep_str.mpr rfl) fun _ => rfl
      · cases h
    · cases h
theorem rd_gv (y : Str) (v : D) : Rd G B n lm N (.gv y v) where
  ls := noL fun _ _ _ => rfl
  op := noP fun _ _ _ => rfl
  ex := fun d sc X w W L x C h => by
    unfold mE at h
    split at h
    · rename_i z _
      simp only [Bool.and_eq_true, decide_eq_true_eq] at h
      obtain ⟨⟨⟨h0, h1⟩, h2⟩, h3⟩ := h
      have S := hS X w W L C.good
      have hg : Gl X z := by
        show X.env.kindOf z = _
        unfold Env.kindOf
        rw [C.sc_]
        exact gl_of h1
      unfold gvB at h3
      split at h3
      · obtain ⟨t, e⟩ := S.int z _ (of_decide_eq_true h3)
        exact dfl (me_const (pe_glob (v := .int _) hg e ⟨t, rfl⟩ (nm_of h2).1) fun _ _ => rep_int.mpr rfl) fun _ => rfl
      · obtain ⟨t, e⟩ := S.str z _ (of_decide_eq_true h3)
        exact dfl (me_const (pe_glob (v := .str _) hg e ⟨t, rfl⟩ (nm_of h2).1) fun _ _ => rep_str.mpr rfl) fun _ => rfl
      · cases h3
    · cases h
theorem rd_bin (op : Bop) {a b : CE} (ha : Rd G B n lm N a) (hb : Rd G B n lm N b) : Rd G B n lm N (.bin op a b) where
  ls := noL fun _ _ _ => rfl
  op := noP fun _ _ _ => rfl
  ex := fun d sc X w W L x C h => by
    have S := hS X w W L C.good
    unfold mE at h
    split at h
    · simp only [Bool.and_eq_true, decide_eq_true_eq] at h
      obtain ⟨⟨rfl, h1⟩, h2⟩ := h
      exact dfl (me_bin S.hK op (ha.ex _ _ _ _ _ _ _ C h1).1 (hb.ex _ _ _ _ _ _ _ C h2).1) fun _ => rfl
    · cases h
theorem rd_cmp (op : Cop) {a b : CE} (ha : Rd G B n lm N a) (hb : Rd G B n lm N b) : Rd G B n lm N (.cmp op a b) where
  ls := noL fun _ _ _ => rfl
  op := noP fun _ _ _ => rfl
  ex := fun d sc X w W L x C h => by
    have S := hS X w W L C.good
    unfold mE at h
    split at h
    · simp only [Bool.and_eq_true, decide_eq_true_eq, Bool.not_eq_true'] at h
      obtain ⟨⟨⟨rfl, h0⟩, h1⟩, h2⟩ := h
      exact ⟨me_cmp S.hK S.un op h0 (ha.ex _ _ _ _ _ _ _ C h1).1 (hb.ex _ _ _ _ _ _ _ C h2).1, fun _ => mt_cmp S.hK S.un op h0 (ha.ex _ _ _ _ _ _ _ C h1).1 (hb.ex _ _ _ _ _ _ _ C h2).1⟩
    · cases h
theorem rd_chain (op op' : Cop) {a b c : CE} (ha : Rd G B n lm N a) (hb : Rd G B n lm N b) (hc : Rd G B n lm N c) : Rd G B n lm N (.chain op op' a b c) where
  ls := noL fun _ _ _ => rfl
  op := noP fun _ _ _ => rfl
  ex := fun d sc X w W L x C h => by
    have S := hS X w W L C.good
    unfold mE at h
    split at h
    · simp only [Bool.and_eq_true, decide_eq_true_eq, Bool.not_eq_true'] at h
      obtain ⟨⟨⟨⟨⟨rfl, rfl⟩, h0⟩, h1⟩, h2⟩, h3⟩ := h
      exact ⟨me_chain S.hK S.un op op' h0 (ha.ex _ _ _ _ _ _ _ C h1).1 (hb.ex _ _ _ _ _ _ _ C h2).1 (hc.ex _ _ _ _ _ _ _ C h3).1, fun _ => mt_chain S.hK S.un op op' h0 (ha.ex _ _ _ _ _ _ _ C h1).1 (hb.ex _ _ _ _ _ _ _ C h2).1 (hc.ex _ _ _ _ _ _ _ C h3).1⟩
    · cases h
theorem rd_neg {a : CE} (ha : Rd G B n lm N a) : Rd G B n lm N (.neg a) where
  ls := noL fun _ _ _ => rfl
  op := noP fun _ _ _ => rfl
  ex := fun d sc X w W L x C h => by
    unfold mE at h
    split at h
    · exact dfl (me_neg (ha.ex _ _ _ _ _ _ _ C h).1) fun _ => rfl
    · cases h
theorem rd_not {a : CE} (ha : Rd G B n lm N a) : Rd G B n lm N (.not a) where
  ls := noL fun _ _ _ => rfl
  op := noP fun _ _ _ => rfl
  ex := fun d sc X w W L x C h => by
    unfold mE at h
    split at h
    · exact ⟨me_not (ha.ex _ _ _ _ _ _ _ C h).1, fun t => mt_not ((ha.ex _ _ _ _ _ _ _ C h).2 t)⟩
    · cases h
theorem rd_and {a b : CE} (ha : Rd G B n lm N a) (hb : Rd G B n lm N b) : Rd G B n lm N (.and a b) where
  ls := noL fun _ _ _ => rfl
  op := noP fun _ _ _ => rfl
  ex := fun d sc X w W L x C h => by
    unfold mE at h
    split at h
    · rename_i y z r p
      rw [Bool.and_eq_true] at h
      obtain ⟨h1, h2⟩ := h
      obtain ⟨a1, a2⟩ := ha.ex _ _ _ _ _ _ _ C h1
      split at h2
      · obtain ⟨b1, b2⟩ := hb.ex _ _ _ _ _ _ _ C h2
        exact ⟨me_and a1 (me_one b1), fun t => (mw_and (a2 (by simp only [testB, Bool.and_eq_true] at t; exact t.1)) (pw_and1 (b2 (by simp only [testB, Bool.and_eq_true] at t; exact t.2)))).pt⟩
      · obtain ⟨b1, b2⟩ := hb.ex _ _ _ _ _ _ _ C h2
        exact ⟨me_and a1 b1, fun t => (mw_and (a2 (by simp only [testB, Bool.and_eq_true] at t; exact t.1)) (pw_of (b2 (by simp only [testB, Bool.and_eq_true] at t; exact t.2)))).pt⟩
    · cases h
theorem rd_or {a b : CE} (ha : Rd G B n lm N a) (hb : Rd G B n lm N b) : Rd G B n lm N (.or a b) where
  ls := noL fun _ _ _ => rfl
  op := noP fun _ _ _ => rfl
  ex := fun d sc X w W L x C h => by
    unfold mE at h
    split at h
    · rename_i y z r p
      rw [Bool.and_eq_true] at h
      obtain ⟨h1, h2⟩ := h
      obtain ⟨a1, a2⟩ := ha.ex _ _ _ _ _ _ _ C h1
      split at h2
      · obtain ⟨b1, b2⟩ := hb.ex _ _ _ _ _ _ _ C h2
        exact ⟨me_or a1 (me_one b1), fun t => (mw_or (a2 (by simp only [testB, Bool.and_eq_true] at t; exact t.1)) (pw_or1 (b2 (by simp only [testB, Bool.and_eq_true] at t; exact t.2)))).pt⟩
      · obtain ⟨b1, b2⟩ := hb.ex _ _ _ _ _ _ _ C h2
        exact ⟨me_or a1 b1, fun t => (mw_or (a2 (by simp only [testB, Bool.and_eq_true] at t; exact t.1)) (pw_of (b2 (by simp only [testB, Bool.and_eq_true] at t; exact t.2)))).pt⟩
    · cases h
theorem rd_ife {c a b : CE} (hc : Rd G B n lm N c) (ha : Rd G B n lm N a) (hb : Rd G B n lm N b) : Rd G B n lm N (.ife c a b) where
  ls := noL fun _ _ _ => rfl
  op := noP fun _ _ _ => rfl
  ex := fun d sc X w W L x C h => by
    unfold mE at h
    split at h
    · simp only [Bool.and_eq_true] at h
      obtain ⟨⟨⟨h0, h1⟩, h2⟩, h3⟩ := h
      exact ⟨me_ife ((hc.ex _ _ _ _ _ _ _ C h1).2 h0) (ha.ex _ _ _ _ _ _ _ C h2).1 (hb.ex _ _ _ _ _ _ _ C h3).1, fun t => by cases t⟩
    · cases h
theorem rd_nil : Rd G B n lm N .nil where
  ex := fun d sc X w W L x C h => by
    unfold mE at h
    cases h
  op := noP fun _ _ _ => rfl
  ls := fun d sc X w W L xs C h => by
    unfold mL at h
    split at h
    · exact ma_nil
    · cases h
theorem rd_cons {a b : CE} (ha : Rd G B n lm N a) (hb : Rd G B n lm N b) : Rd G B n lm N (.cons a b) where
  ex := fun d sc X w W L x C h => by
    unfold mE at h
    cases h
  op := noP fun _ _ _ => rfl
  ls := fun d sc X w W L xs C h => by
    have st := mL_star h
    unfold mL at h
    split at h
    · rename_i x xs
      simp only [Bool.and_eq_true] at h
      exact ma_cons (ha.ex _ _ _ _ _ _ _ C h.1.2).1 (hb.ls _ _ _ _ _ _ _ C h.2) (star_plain (pos := Inhabited.default) st).1
    · cases h
omit hS in
theorem mat_cons {X : Cx} {w : Vw} {W : WX} {a : Expr} {ma : Fr → M D} {es : List Expr} {ms : Fr → M D} {t : TA} (hr : PAT X (a :: es) (tCons (tM X w W (RD w) ma) (tM X w W (RL w) ms))) : PAT X (a :: es) (tM X w W (RL w) fun fr => bnd (ma fr) fun x => bnd (ms fr) fun y => consD x y) := fun pos pins s σ H Q h0 I h =>
  hr pos pins s σ H Q h0 I (tM_bnd h fun fr d v c hf hs hr hp => tM_of (R := RL w) hf hs (Post.imp (hp.bn (R' := RL w)) fun vs H2 ⟨e, c2, e2, mo, s2, ⟨ds, e3, r2⟩, hp2⟩ => by
    subst e2 e3
    exact hp2 c2.φ c2.H (v :: vs) (Mono.refl c2) s2 ⟨d :: ds, rfl, .cons (hr.mono mo) r2⟩))
theorem rd_consT (s : Str) {b : CE} (hb : Rd G B n lm N b) : Rd G B n lm N (.consT s b) where
  ex := fun d sc X w W L x C h => by
    unfold mE at h
    cases h
  op := noP fun _ _ _ => rfl
  ls := fun d sc X w W L xs C h => by
    unfold mL at h
    split at h
    · rename_i z j p xs
      simp only [Bool.and_eq_true, decide_eq_true_eq] at h
      obtain ⟨rfl, h⟩ := h
      have k := hb.lt _ _ _ _ _ _ _ C h
      have st := mLT_star h
      refine ⟨fun pos pins s' σ H Q I q => ?_⟩
      obtain ⟨st1, _⟩ := star_plain (pos := pos) (env := X.env) (e := .Constant (.str s) j p) (es := xs) fun y hy => by
        rcases List.mem_cons.mp hy with rfl | hy
        · rfl
        · exact st y hy
      rw [st1]
      show wpAny _ _ (spliced ((false, eval (.Constant (.str s) j p) X.env) :: backTo pos (starEach xs X.env))) _ _ s'
      refine Calls.spliced_cons (Calls.Constant_str ?_)
      obtain ⟨fr, c, e, hf, hs, hp⟩ := q
      subst e
      refine thn (k pos pins _ σ c.H (fun vs H2 => Q (.str s :: vs) H2) (by show 1 ≤ s'.toks + 1; omega) (I.tok _) ⟨fr, c, rfl, hf, hs, Post.imp (PostM.bn (R' := RL w) hp) fun vs H2 ⟨e, c2, e2, mo, s2, ⟨ds, e3, r2⟩, hp2⟩ => by
        subst e2 e3
        exact hp2 c2.φ c2.H (.str s :: vs) (Mono.refl c2) s2 ⟨.str s :: ds, rfl, .cons (rep_str.mpr rfl) r2⟩⟩) fun us s2 ⟨xs, H2, I2, r2, q2⟩ => ⟨.str s :: xs, H2, I2, .cons ⟨_, rfl⟩ r2, q2⟩
    · cases h
theorem rd_consU {a b : CE} (ha : Rd G B n lm N a) (hb : Rd G B n lm N b) : Rd G B n lm N (.consU a b) where
  ex := fun d sc X w W L x C h => by
    unfold mE at h
    cases h
  op := noP fun _ _ _ => rfl
  ls := noL fun _ _ _ => rfl
  lt := fun d sc X w W L xs C h => by
    have st := mLT_star h
    unfold mLT at h
    split at h
    · rename_i x xs
      simp only [Bool.and_eq_true] at h
      exact mat_cons (t := tNil) (pat_cons (CwR.PET.of (ha.ex _ _ _ _ _ _ _ C h.1.2).1) (hb.lt _ _ _ _ _ _ _ C h.2) (star_plain (pos := Inhabited.default) st).1)
    · cases h
theorem rd_rep {o b : CE} (y z : Str) (ho : Rd G B n lm N o) (hb : Rd G B n lm N b) : Rd G B n lm N (.rep o y z b) where
  ex := fun d sc X w W L x C h => by
    unfold mE at h
    cases h
  op := noP fun _ _ _ => rfl
  ls := noL fun _ _ _ => rfl
  lt := fun d sc X w W L xs C h => by
    have st := mLT_star h
    unfold mLT at h
    split at h
    · rename_i u m ap y' j1 c1 z' j2 c2 p xs
      simp only [Bool.and_eq_true, decide_eq_true_eq, Bool.not_eq_true'] at h
      obtain ⟨⟨⟨⟨⟨⟨⟨rfl, rfl⟩, rfl⟩, h4⟩, h5⟩, h6⟩, h7⟩, h8⟩ := h
      have k := CwR.pet_replC (c0 := c1) (c1 := c2) (j := j1) (k := j2) (apos := ap) (pos := p) (ho.ex _ _ _ _ _ _ _ C h7).1 h4 rfl (attr_base h5 _ _ _) h6
      have k2 : PET X (.Call (.Attribute u "replace" ap) [.Constant (.str y) j1 c1, .Constant (.str z) j2 c2] [] p) (tM X w W (RD w) fun fr => bnd (EV G n o fr) (repD y z)) := fun pins s σ H Q h0 I q => k pins s σ H Q h0 I (tM_bnd q fun fr d v c hf hs hr hp => by
        cases d with
        | str x =>
          obtain ⟨g, hp⟩ := PostM.grd (f := fun _ => ret (D.str (PySem.Txt.replace x y z))) hp
          exact ⟨x, rep_str.mp hr, of_decide_eq_true g, hp c.φ c.H _ (Mono.refl c) hs (rep_str.mpr rfl)⟩
        | _ => exact hp.elim)
      exact mat_cons (t := tNil) (pat_cons k2 (fun pos pins s σ H Q _ I q => (hb.ls _ _ _ _ _ _ _ C h8).run pos pins s σ H Q I q) (star_plain (pos := Inhabited.default) st).1)
    · cases h
theorem rd_tup {a : CE} (ha : Rd G B n lm N a) : Rd G B n lm N (.tup a) where
  ls := noL fun _ _ _ => rfl
  op := noP fun _ _ _ => rfl
  ex := fun d sc X w W L x C h => by
    unfold mE at h
    split at h
    · exact dfl (me_tup (ha.ls _ _ _ _ _ _ _ C h)) fun _ => rfl
    · cases h
theorem rd_lst {a : CE} (ha : Rd G B n lm N a) : Rd G B n lm N (.lst a) where
  ls := noL fun _ _ _ => rfl
  op := noP fun _ _ _ => rfl
  ex := fun d sc X w W L x C h => by
    unfold mE at h
    split at h
    · exact dfl (me_lst (ha.ls _ _ _ _ _ _ _ C h)) fun _ => rfl
    · cases h
theorem rd_idx {a b : CE} (ha : Rd G B n lm N a) (hb : Rd G B n lm N b) : Rd G B n lm N (.idx a b) where
  ls := noL fun _ _ _ => rfl
  op := noP fun _ _ _ => rfl
  ex := fun d sc X w W L x C h => by
    have S := hS X w W L C.good
    unfold mE at h
    split at h
    · simp only [Bool.and_eq_true] at h
      exact dfl (me_idx S.hK (ha.ex _ _ _ _ _ _ _ C h.1.2).1 (hb.ex _ _ _ _ _ _ _ C h.2).1 (plain_ix h.1.1)) fun _ => rfl
    · cases h
theorem rd_sl {a lo hi : CE} (ha : Rd G B n lm N a) (hl : Rd G B n lm N lo) (hh : Rd G B n lm N hi) : Rd G B n lm N (.sl a lo hi) where
  ls := noL fun _ _ _ => rfl
  op := noP fun _ _ _ => rfl
  ex := fun d sc X w W L x C h => by
    have S := hS X w W L C.good
    unfold mE at h
    split at h
    · simp only [Bool.and_eq_true] at h
      obtain ⟨t1, m1⟩ := hl.op _ _ _ _ _ _ _ C h.1.2
      obtain ⟨t2, m2⟩ := hh.op _ _ _ _ _ _ _ C h.2
      exact dfl (me_sl S.hK (ha.ex _ _ _ _ _ _ _ C h.1.1).1 m1 m2) fun _ => rfl
    · cases h
theorem rd_part {a : CE} (ha : Rd G B n lm N a) : Rd G B n lm N (.part a) where
  ls := noL fun _ _ _ => rfl
  ex := fun d sc X w W L x C h => by
    unfold mE at h
    cases h
  op := fun d sc X w W L x C h => by
    unfold mP at h
    split at h
    · exact ⟨_, mo_some (ha.ex _ _ _ _ _ _ _ C h).1⟩
    · cases h
theorem rd_attr {a : CE} (f : Str) (ha : Rd G B n lm N a) : Rd G B n lm N (.attr a f) where
  ls := noL fun _ _ _ => rfl
  op := noP fun _ _ _ => rfl
  ex := fun d sc X w W L x C h => by
    have S := hS X w W L C.good
    unfold mE at h
    split at h
    · simp only [Bool.and_eq_true, decide_eq_true_eq] at h
      obtain ⟨⟨rfl, h1⟩, h2⟩ := h
      exact dfl (me_attr S (ha.ex _ _ _ _ _ _ _ C h2).1 (attr_base h1 _ _ _)) fun _ => rfl
    · cases h
omit hS in
theorem gl_ctx {d : Bool} {sc : Scope} {X : Cx} {w : Vw} {W : WX} {L : Addr} (C : Ctx G B n lm N d sc X w W L) {z : Str} (h : glB sc z = true) : Gl X z := by
  show X.env.kindOf z = _
  unfold Env.kindOf
  rw [C.sc_]
  exact gl_of h
theorem rd_call {as : CE} (y : Str) (f : Nat) (ha : Rd G B n lm N as) : Rd G B n lm N (.call y f as) where
  ls := noL fun _ _ _ => rfl
  op := noP fun _ _ _ => rfl
  ex := fun d sc X w W L x C h => by
    have S := hS X w W L C.good
    unfold mE at h
    split at h
    · rename_i z p1 es p2
      simp only [Bool.and_eq_true, decide_eq_true_eq] at h
      obtain ⟨⟨⟨⟨rfl, h1⟩, h2⟩, h3⟩, h4⟩ := h
      have st := mL_star h4
      have hm : X.mg y = some (.ref (w.fa f)) ∧ PySem.W.keepIn X.K (.ref (w.fa f)) = true := by
        unfold funB at h3
        split at h3
        · rename_i F hF
          simp only [Bool.and_eq_true, decide_eq_true_eq, Option.isNone_iff_eq_none] at h3
          refine S.fun_ f y F.fb ?_
          rw [hF, ← h3.1]
          obtain ⟨⟨p, q⟩, b⟩ := F
          have : q = none := h3.2
          rw [this]
        · cases h3
      cases es with
      | nil =>
        refine dfl ?_ fun _ => rfl
        have e0 : EV G n as = fun _ => ret (.tup []) := by
          unfold mL at h4
          cases as <;> first | rfl | exact Bool.noConfusion h4
        have k := me_callG0 (W := W) (w := w) (p := p1) (pos := p2) hm.2 hm.1 (gl_ctx C h1) (S.run f) (nm_of h2).1
        have e1 : EV G n (.call y f as) = fun fr => bnd (EV G n as fr) fun y => match y with
          | .tup ys => (calls G n).1 f ys
          | _ => no := by
          funext fr
          rfl
        rw [e1, e0]
        exact k
      | cons e es => exact dfl (me_callG hm.2 hm.1 (gl_ctx C h1) (S.run f) (ha.ls _ _ _ _ _ _ _ C h4) st (nm_of h2).1) fun _ => rfl
    · cases h
theorem rd_make {as : CE} (y : Str) (c : Nat) (ha : Rd G B n lm N as) : Rd G B n lm N (.make y c as) where
  ls := noL fun _ _ _ => rfl
  op := noP fun _ _ _ => rfl
  ex := fun d sc X w W L x C h => by
    have S := hS X w W L C.good
    unfold mE at h
    split at h
    · rename_i z p1 es p2
      simp only [Bool.and_eq_true, decide_eq_true_eq] at h
      obtain ⟨⟨⟨⟨rfl, h1⟩, h2⟩, h3⟩, h4⟩ := h
      have st := mL_star h4
      have hm : X.mg y = some (.ref (w.ca c)) ∧ PySem.W.keepIn X.K (.ref (w.ca c)) = true := by
        unfold clsB at h3
        split at h3
        · rename_i F hF
          have e := of_decide_eq_true h3
          obtain ⟨k1, k2, k3⟩ := S.gcl c F hF
          rw [e] at k1
          exact ⟨k1, k3.kp⟩
        · cases h3
      cases es with
      | nil =>
        refine dfl ?_ fun _ => rfl
        have e0 : EV G n as = fun _ => ret (.tup []) := by
          unfold mL at h4
          cases as <;> first | rfl | exact Bool.noConfusion h4
        have k := me_callG0 (W := W) (w := w) (p := p1) (pos := p2) hm.2 hm.1 (gl_ctx C h1) (S.mke c) (nm_of h2).1
        have e1 : EV G n (.make y c as) = fun fr => bnd (EV G n as fr) fun y => match y with
          | .tup ys => makeD G (calls G n).1 c ys
          | _ => no := by
          funext fr
          rfl
        rw [e1, e0]
        exact k
      | cons e es => exact dfl (me_callG hm.2 hm.1 (gl_ctx C h1) (S.mke c) (ha.ls _ _ _ _ _ _ _ C h4) st (nm_of h2).1) fun _ => rfl
    · cases h
theorem rd_meth {o as : CE} (m : Str) (ho : Rd G B n lm N o) (ha : Rd G B n lm N as) : Rd G B n lm N (.meth o m as) where
  ls := noL fun _ _ _ => rfl
  op := noP fun _ _ _ => rfl
  ex := fun d sc X w W L x C h => by
    have S := hS X w W L C.good
    unfold mE at h
    split at h
    · rename_i y m' ap es p
      simp only [Bool.and_eq_true, decide_eq_true_eq] at h
      obtain ⟨⟨⟨⟨⟨rfl, h1⟩, h2⟩, h3⟩, h4⟩, h5⟩ := h
      have Y : MSyn X y m ap es p := ⟨attr_base h1 _ _ _, h2, mL_star h5, h3, meth_tree h1 h2 (mL_star h5) h3⟩
      cases es with
      | nil =>
        refine dfl ?_ fun _ => rfl
        have e0 : EV G n as = fun _ => ret (.tup []) := by
          unfold mL at h5
          cases as <;> first | rfl | exact Bool.noConfusion h5
        have k := me_meth0 S Y (ho.ex _ _ _ _ _ _ _ C h4).1
        have e1 : EV G n (.meth o m as) = fun fr => bnd (EV G n o fr) fun x => bnd (methOk G x m) fun _ => bnd (EV G n as fr) fun y => match y with
          | .tup ys => methD G (calls G n).1 x m ys
          | _ => no := by
          funext fr
          rfl
        rw [e1, e0]
        exact k
      | cons e es => exact dfl (me_meth S Y (ho.ex _ _ _ _ _ _ _ C h4).1 (ha.ls _ _ _ _ _ _ _ C h5)) fun _ => rfl
    · cases h
theorem rd_bi {as : CE} (b : Bi) (ha : Rd G B n lm N as) : Rd G B n lm N (.bi b as) where
  ls := noL fun _ _ _ => rfl
  op := noP fun _ _ _ => rfl
  ex := fun d sc X w W L x C h => by
    have S := hS X w W L C.good
    unfold mE at h
    split at h
    · simp only [Bool.and_eq_true, decide_eq_true_eq] at h
      obtain ⟨⟨⟨rfl, h1⟩, h2⟩, h3⟩ := h
      exact dfl (me_bi S (gl_ctx C h1) h2 (ha.ls _ _ _ _ _ _ _ C h3) (mL_star h3)) fun _ => rfl
    · cases h
theorem rd_isi {a : CE} (T : Ty) (ha : Rd G B n lm N a) : Rd G B n lm N (.isi a T) where
  ls := noL fun _ _ _ => rfl
  op := noP fun _ _ _ => rfl
  ex := fun d sc X w W L x C h => by
    have S := hS X w W L C.good
    unfold mE at h
    split at h
    · simp only [Bool.and_eq_true, decide_eq_true_eq, Bool.not_eq_true'] at h
      obtain ⟨⟨⟨⟨⟨⟨⟨⟨rfl, h1⟩, h2⟩, h3⟩, rfl⟩, h5⟩, h6⟩, h7⟩, h8⟩ := h
      exact dfl (me_isi S (gl_ctx C h1) h2 h3 (gl_ctx C h5) h6 (ha.ex _ _ _ _ _ _ _ C h8).1 h7) fun _ => rfl
    · cases h
theorem rd_lam (k : Nat) (caps : List Nat) : Rd G B n lm N (.lam k caps) where
  ls := noL fun _ _ _ => rfl
  op := noP fun _ _ _ => rfl
  ex := fun d sc X w W L x C h => by
    unfold mE at h
    split at h
    · rw [Bool.and_eq_true] at h
      exact dfl (C.lam h.1 k caps _ _ _ _ h.2) fun _ => rfl
    · cases h
theorem rd_no {e : CE} (h : ∀ d sc x, mE G N lm d sc e x = false) (h1 : ∀ d sc xs, mL G N lm d sc e xs = false) (h2 : ∀ d sc x, mP G N lm d sc e x = false) (h3 : ∀ d sc xs, mLT G N lm d sc e xs = false) : Rd G B n lm N e where
  lt := fun d sc X w W L xs _ q => by
    rw [h3] at q
    cases q
  ls := noL h1
  op := noP h2
  ex := fun d sc X w W L x C q => by
    rw [h] at q
    cases q
end
end MI

set_option Elab.async false
set_option linter.all false
set_option maxRecDepth 100000
set_option maxHeartbeats 16000000
/-! MINI, part 23: targets and comprehensions that match; every expression. -/
namespace MI
open PySem PySem.Spec PyProof.Rows L2
section
variable {N : List Str} {d : Bool} {sc : Scope} {X : Cx} {w : Vw} {W : WX}
theorem tg_ok (hc : X.calm = true) (hN : X.N.Nodup) (hK : w.K = X.K) (eN : X.N = N) (es : X.env.scope = sc) (hf : d = true → X.fn = fun _ => true) (a : Tg) :
    (∀ e, mT N d sc a e = true → PG X e (tB X w a.slots (bindT a))) ∧ (∀ xs, mTs N d sc a xs = true → TgR X w a xs) := by
  induction a with
  | nm i =>
    refine ⟨fun e h => ?_, fun xs h => by unfold mTs at h; cases h⟩
    unfold mT at h
    split at h
    · simp only [Bool.and_eq_true, Bool.or_eq_true, decide_eq_true_eq] at h
      obtain ⟨h1, h2⟩ := h
      rw [← eN] at h1
      rcases h2 with h2 | ⟨h2, h3⟩
      · exact mg_nm hN h1 (.inl (by rw [es]; exact loc_of h2)) (.inr (by rw [es]; exact loc_of h2))
      · exact mg_nm hN h1 (.inr (by rw [es]; exact cel_of h3)) (.inl (by rw [hf h2]))
    · cases h
  | nil =>
    refine ⟨fun e h => (by unfold mT at h; cases h), fun xs h => ?_⟩
    unfold mTs at h
    split at h
    · exact tgr_nil
    · cases h
  | cons a b iha ihb =>
    refine ⟨fun e h => (by unfold mT at h; cases h), fun xs h => ?_⟩
    unfold mTs at h
    split at h
    · simp only [Bool.and_eq_true, Bool.not_eq_true'] at h
      exact tgr_cons (iha.1 _ h.1.2) (ihb.2 _ h.2) h.1.1
    · cases h
  | tup a iha =>
    refine ⟨fun e h => ?_, fun xs h => by unfold mTs at h; cases h⟩
    unfold mT at h
    split at h
    · exact mg_tup hc hK (iha.2 _ h)
    · cases h
end
section
variable {G : GP} {B : Bas} {n : Nat} {lm : LmB} {N : List Str}
theorem tg_ctx {d : Bool} {sc : Scope} {X : Cx} {w : Vw} {W : WX} {L : Addr} (C : Ctx G B n lm N d sc X w W L) (S : Sta G n X w W) {a : Tg} {e : Expr} (h : mT N d sc a e = true) : PG X e (tB X w a.slots (bindT a)) :=
  (tg_ok C.good.calm C.good.nd S.hK C.N_ C.sc_ C.fnd a).1 e h
/-- what a walk's items come from -/
noncomputable def itM (G : GP) (n : Nat) (k : Ik) (a b : CE) : Fr → M (List D × List (Nat × List D)) := fun fr => bnd (EV G n a fr) fun x => bnd (EV G n b fr) fun y => itOf k x y
theorem yes_in {b : CE} (h : yesB b = true) : b = .yes := by
  unfold yesB at h
  split at h
  · rfl
  · cases h
variable (hS : ∀ X w W L, Good B n X w W L → Sta G n X w W)
include hS
theorem it_ok {d : Bool} {sc : Scope} {X : Cx} {w : Vw} {W : WX} {L : Addr} (C : Ctx G B n lm N d sc X w W L) {k : Ik} {a b : CE} {tg it : Expr} (ha : Rd G B n lm N a) (hb : Rd G B n lm N b)
    (h : mI G sc k (mE G N lm d sc a) (mE G N lm d sc b) (yesB b) it = true) : PI X tg it (tM X w W (RI w) (itM G n k a b)) ∧ ∀ x, foldedSetIterable it X.env x = pure x := by
  have S := hS X w W L C.good
  unfold mI at h
  cases k with
  | seq =>
    simp only [Bool.and_eq_true] at h
    obtain ⟨⟨h1, h2⟩, h3⟩ := h
    have := yes_in h1
    subst this
    exact ⟨mi_seq S.hK (ha.ex _ _ _ _ _ _ _ C h2).1, iter_set h3 _⟩
  | rng1 =>
    simp only at h
    split at h
    · simp only [Bool.and_eq_true, decide_eq_true_eq, Bool.not_eq_true'] at h
      obtain ⟨⟨⟨⟨⟨h1, rfl⟩, h3⟩, h4⟩, h5⟩, h6⟩ := h
      have := yes_in h1
      subst this
      exact ⟨mi_rng1 (gl_ctx C h3) (S.fre _ h4) h6 (ha.ex _ _ _ _ _ _ _ C h5).1, fun _ => rfl⟩
    · cases h
  | rng2 =>
    simp only at h
    split at h
    · simp only [Bool.and_eq_true, decide_eq_true_eq, Bool.not_eq_true'] at h
      obtain ⟨⟨⟨⟨⟨⟨rfl, h3⟩, h4⟩, h5⟩, h6⟩, h7⟩, h8⟩ := h
      exact ⟨mi_rng2 (gl_ctx C h3) (S.fre _ h4) h6 h8 (ha.ex _ _ _ _ _ _ _ C h5).1 (hb.ex _ _ _ _ _ _ _ C h7).1, fun _ => rfl⟩
    · cases h
  | _ => cases h
/-- the parts of a comprehension that matches -/
theorem lcp_ok {d : Bool} {sc : Scope} {X : Cx} {w : Vw} {W : WX} {L : Addr} (C : Ctx G B n lm N d sc X w W L) {k : Ik} {a b c elt : CE} {tg : Tg} {y t it : Expr} {ifs : List Expr} {az : Int} {scope : Scope} {pos : Pos} (ha : Rd G B n lm N a) (hb : Rd G B n lm N b) (hc : Rd G B n lm N c) (he : Rd G B n lm N elt)
    (h : mE G N lm d sc (.lc k a b tg c elt) (.ListComp y [⟨t, it, ifs, az⟩] scope pos) = true) : az = 0 ∧ LcP CnCalm AnyZ X w W L t it y ifs scope (own1 tg t) (itM G n k a b) tg (EV G n c) (EV G n elt) := by
  have S := hS X w W L C.good
  unfold mE at h
  simp only [Bool.and_eq_true, decide_eq_true_eq] at h
  obtain ⟨⟨⟨⟨⟨⟨h0, h1⟩, h2⟩, h3⟩, h4⟩, h5⟩, h6⟩ := h
  obtain ⟨i1, i2⟩ := it_ok (tg := t) hS C ha hb h4
  refine ⟨h0, fun _ _ _ _ _ _ _ _ => C.good.calm, C.good.nd, C.good.thr, C.good.kc, (pip_of i1).any, ?_, h2, fun Xb wb Wb r => ?_, i2⟩
  · rw [C.N_, C.sc_]
    exact blkOk_by h1
  · have Cb : Ctx G B n lm N false (relS scope sc) Xb wb Wb L := ⟨C.good.blk r, r.N.trans C.N_, by rw [r.sc, C.sc_], fun z => (by cases z), fun z => (by cases z)⟩
    refine ⟨tg_ctx Cb (hS _ _ _ _ Cb.good) h3, ?_, (he.ex _ _ _ _ _ _ _ Cb h6).1⟩
    split at h5
    · have := yes_in h5
      subst this
      exact ⟨fun pins s σ H Q I q => pts_nil.run pins s σ H Q I (by
        obtain ⟨fr, c, rfl, hf, hs, hp⟩ := q
        exact hp c.φ c.H true (Mono.refl _) hs rfl)⟩
    · rw [Bool.and_eq_true] at h5
      exact pts_one ((hc.ex _ _ _ _ _ _ _ Cb h5.2).2 h5.1)
    · cases h5
omit hS in
theorem lc_same {k : Ik} {a b c elt : CE} {tg : Tg} : EV G n (.lc k a b tg c elt) = lcM (itM G n k a b) tg (EV G n c) (EV G n elt) := by
  funext fr
  unfold lcM itM
  rw [bnd_assoc]
  show (bnd (EV G n a fr) fun x => _) = _
  congr 1
  funext x
  rw [bnd_assoc]
  rfl
theorem rd_lc (k : Ik) (tg : Tg) {a b c elt : CE} (ha : Rd G B n lm N a) (hb : Rd G B n lm N b) (hc : Rd G B n lm N c) (he : Rd G B n lm N elt) : Rd G B n lm N (.lc k a b tg c elt) where
  ls := noL fun _ _ _ => rfl
  op := noP fun _ _ _ => rfl
  ex := fun d sc X w W L x C h => by
    rw [lc_same]
    have h' := h
    unfold mE at h
    split at h
    · obtain ⟨rfl, P⟩ := lcp_ok hS C ha hb hc he h'
      exact dfl (me_lc P) fun _ => rfl
    · cases h
theorem ev_ok (e : CE) : Rd G B n lm N e := by
  induction e with
  | var i => exact rd_var hS i
  | c v => exact rd_c hS v
  | gv y v => exact rd_gv hS y v
  | bin op a b ha hb => exact rd_bin hS op ha hb
  | cmp op a b ha hb => exact rd_cmp hS op ha hb
  | chain op op' a b c ha hb hc => exact rd_chain hS op op' ha hb hc
  | neg a ha => exact rd_neg hS ha
  | not a ha => exact rd_not hS ha
  | and a b ha hb => exact rd_and hS ha hb
  | or a b ha hb => exact rd_or hS ha hb
  | ife c a b hc ha hb => exact rd_ife hS hc ha hb
  | nil => exact rd_nil hS
  | cons a b ha hb => exact rd_cons hS ha hb
  | tup a ha => exact rd_tup hS ha
  | lst a ha => exact rd_lst hS ha
  | idx a b ha hb => exact rd_idx hS ha hb
  | sl a lo hi ha hl hh => exact rd_sl hS ha hl hh
  | part a ha => exact rd_part hS ha
  | attr a f ha => exact rd_attr hS f ha
  | call x f as ha => exact rd_call hS x f ha
  | callv i as ha => exact rd_no hS (fun _ _ _ => rfl) (fun _ _ _ => rfl) (fun _ _ _ => rfl) fun _ _ _ => rfl
  | make x c as ha => exact rd_make hS x c ha
  | meth o m as ho ha => exact rd_meth hS m ho ha
  | bi b as ha => exact rd_bi hS b ha
  | isi a T ha => exact rd_isi hS T ha
  | lc k a b tg c elt ha hb hc he => exact rd_lc hS k tg ha hb hc he
  | lam k caps => exact rd_lam hS k caps
  | consT s b hb => exact rd_consT hS s hb
  | consU a b ha hb => exact rd_consU hS ha hb
  | rep o y z b ho hb => exact rd_rep hS y z ho hb
  | yes => exact rd_no hS (fun _ _ _ => rfl) (fun _ _ _ => rfl) (fun _ _ _ => rfl) fun _ _ _ => rfl
end
end MI

set_option Elab.async false
set_option linter.all false
set_option maxRecDepth 100000
set_option maxHeartbeats 16000000
/-! MINI, part 24: statements that match. -/
namespace MI
open PySem PySem.Spec PyProof.Rows L2
def notLc : Expr → Bool
  | .ListComp _ _ _ _ => false
  | .SetComp _ _ _ _ => false
  | .DictComp _ _ _ _ _ => false
  | _ => true
def noPar (t v : Expr) : Bool := match v with
  | .Tuple _ _ _ => (match t with
    | .Tuple _ _ _ => false
    | .List _ _ => false
    | _ => true)
  | _ => true
theorem sw_no {v : Expr} (h : notLc v = true) (t : Option Expr) (l : Nat) (env : Env) : swapsWith v t l env = pure false := by
  cases v <;> first | rfl | cases h
theorem sw_attr (v : Expr) (o : Expr) (f : Str) (p : Pos) (l : Nat) (env : Env) : swapsWith v (some (.Attribute o f p)) l env = pure false := by
  cases v <;> rfl
theorem par_no {t v : Expr} (h : noPar t v = true) (env : Env) : swappedStores [t] v env = pure none := by
  cases v <;> first
    | (cases t <;> rfl)
    | (cases t <;> first | rfl | cases h)
/-- a comprehension to a cell's name -/
theorem sw_cell {elt : Expr} {gs : List Comprehension} {scope : Scope} {pos py : Pos} {y : Str} {l : Nat} {env : Env} (hk : env.scope.kind = .function) (hy : env.scope.names.lookup y = some .cell) : swapsWith (.ListComp elt gs scope pos) (some (.Name y py)) l env = pure false := by
  have ky : env.kindOf y = some .cell := hy
  have hb : env.blockKind = .function := by unfold Env.blockKind; rw [hk]; rfl
  unfold swapsWith
  simp only [hb, ky]
  rfl
theorem par_two {a b : Expr} {x y : Str} {px py pt pt2 : Pos} {kt k2 : Nat} {env : Env} (hk : env.scope.kind = .function) (hx : env.scope.names.lookup x = some .local) (hy : env.scope.names.lookup y = some .local) (hl : (py.line == px.line) = true) (hne : x ≠ y)
    (sa : PySem.W.isStarred a = false) (sb : PySem.W.isStarred b = false) (hf : (foldedForSure 8 a && foldedForSure 8 b) = false) (hc : (constantsAlone 8 a && constantsAlone 8 b) = false) :
    swappedStores [.Tuple [.Name x px, .Name y py] kt pt] (.Tuple [a, b] k2 pt2) env = pure (some [x, y]) := by
  have kx : env.kindOf x = some .local := hx
  have ky : env.kindOf y = some .local := hy
  have hb : env.blockKind = .function := by unfold Env.blockKind; rw [hk]; rfl
  have all1 : [a, b].all (foldedForSure 8) = false := by simpa using hf
  have all2 : [a, b].all (constantsAlone 8) = false := by simpa using hc
  have hl' : py.line = px.line := by simpa using hl
  have ep : (Expr.Name x px).pos = px := rfl
  unfold swappedStores
  simp only [hb, List.length_cons, List.length_nil]
  refine (if_neg (by decide)).trans ((if_neg ?_).trans ((if_neg ?_).trans ((if_neg (by rw [all1]; decide)).trans ((if_neg (by rw [all2]; decide)).trans ?_))))
  · rw [Bool.not_eq_true]
    cases a <;> first
      | exact Bool.noConfusion sa
      | (cases b <;> first | exact Bool.noConfusion sb | rfl)
  · simp [List.filterMap_cons, ep, kx, ky, hl', List.eraseDups_cons, hne, Ne.symm hne]
  · simp [List.filterMap_cons, ep, kx, ky, hl']
end MI

set_option Elab.async false
set_option linter.all false
set_option maxRecDepth 100000
set_option maxHeartbeats 16000000
/-! MINI, part 25: statements that match are read as the evaluator says. -/
namespace MI
open PySem PySem.Spec PyProof.Rows L2
theorem sole_no {t v : Expr} (h : notLc v = true) (l : Nat) (env : Env) : swapsWithSole [t] v l env = pure false := sw_no h _ _ _
def isLc : CE → Bool
  | .lc _ _ _ _ _ _ => true
  | _ => false
/-- the comprehension's own names do not hold y -/
def noOwn (sc : Scope) (y : Str) : Bool := !(sc.names.any fun (n, k) => n == y && (k == .local || k == .cell))
def xcB (G : GP) (c : Nat) (x : Str) : Bool := decide (G.xcs[c]? = some x)
/-- t = e -/
def mA (G : GP) (N : List Str) (lm : LmB) (sc : Scope) (tg : Tg) (e : CE) (t v : Expr) : Bool := match v with
  | .ListComp y gs scope pos => mE G N lm true sc e v && (match t with
    | .Name z py => (match tg with
      | .nm i => decide (N[i]? = some z) && decide (sc.kind = .function) && isLc e && ((locB sc z && (py.line == pos.line) && noOwn scope z) || celB sc z)
      | _ => false)
    | _ => false)
  | _ => mE G N lm true sc e v && mT N true sc tg t && !PySem.W.isStarred t && notLc v && (noPar t v)
/-- a, b = x, y -/
def mPar (G : GP) (N : List Str) (lm : LmB) (sc : Scope) (i j : Nat) (a b : CE) (t v : Expr) : Bool := match t, v with
  | .Tuple [.Name x px, .Name y py] _ _, .Tuple [u, z] _ _ => decide (N[i]? = some x) && decide (N[j]? = some y) && decide (i ≠ j) && decide (sc.kind = .function) && locB sc x && locB sc y && (py.line == px.line) && decide (x ≠ y) && !PySem.W.isStarred u && !PySem.W.isStarred z &&
      !(foldedForSure 8 u && foldedForSure 8 z) && !(constantsAlone 8 u && constantsAlone 8 z) && mE G N lm true sc a u && mE G N lm true sc b z
  | _, _ => false
def parB (G : GP) (N : List Str) (lm : LmB) (sc : Scope) (tg : Tg) (e : CE) (t v : Expr) : Bool := match tg, e with
  | .tup (.cons (.nm i) (.cons (.nm j) .nil)), .tup (.cons a (.cons b .nil)) => mPar G N lm sc i j a b t v
  | _, _ => false
mutual
def mS (G : GP) (N : List Str) (lm : LmB) (sc : Scope) (c : CS) (x : Stmt) : Bool := match c with
  | .skip => match x with
    | .Pass _ => true
    | _ => false
  | .seq _ _ => false
  | .asg tg e => match x with
    | .Assign [t] v _ => mA G N lm sc tg e t v || parB G N lm sc tg e t v
    | _ => false
  | .setf o f e => match x with
    | .Assign [.Attribute y g _] v _ => decide (f = g) && mE G N lm true sc o y && mE G N lm true sc e v
    | _ => false
  | .augf o f op e => match x with
    | .AugAssign (.Attribute y g _) p v _ => decide (f = g) && decide (bopOf op = p) && mE G N lm true sc o y && mE G N lm true sc e v
    | _ => false
  | .aug i op e => match x with
    | .AugAssign (.Name y _) p v _ => decide (N[i]? = some y) && decide (bopOf op = p) && (locB sc y || celB sc y) && mE G N lm true sc e v
    | _ => false
  | .seti o i e => match x with
    | .Assign [.Subscript y z _] v _ => plainB z && notLc v && mE G N lm true sc o y && mE G N lm true sc i z && mE G N lm true sc e v
    | _ => false
  | .ex e => match x with
    | .Expr v _ => notLc v && mE G N lm true sc e v
    | _ => false
  | .ite c a b => match x with
    | .If q xs ys _ => testB c && mE G N lm true sc c q && mSs G N lm sc a xs && mSs G N lm sc b ys
    | _ => false
  | .for k a b tg body => match x with
    | .For t it xs [] _ => mI G sc k (mE G N lm true sc a) (mE G N lm true sc b) (yesB b) it && mT N true sc tg t && mSs G N lm sc body xs
    | _ => false
  | .whl c body => match x with
    | .While q xs [] _ => testB c && mE G N lm true sc c q && mSs G N lm sc body xs
    | _ => false
  | .ret e => match x with
    | .Return (some v) _ => mE G N lm true sc e v
    | _ => false
  | .retn => match x with
    | .Return none _ => true
    | _ => false
  | .brk => match x with
    | .Break _ => true
    | _ => false
  | .cnt => match x with
    | .Continue _ => true
    | _ => false
  | .raise y k as => match x with
    | .Raise (some (.Call (.Name z _) [v] [] _)) none _ => (match as with
      | .cons a .nil => decide (y = z) && glB sc z && nmB z && xcB G k z && !PySem.W.isStarred v && mE G N lm true sc a v
      | _ => false)
    | _ => false
def mSs (G : GP) (N : List Str) (lm : LmB) (sc : Scope) (c : CS) (xs : List Stmt) : Bool := match c with
  | .skip => match xs with
    | [] => true
    | _ => false
  | .seq a b => match xs with
    | x :: xs => mS G N lm sc a x && mSs G N lm sc b xs
    | [] => false
  | _ => false
end
/-- a def's own context -/
structure DCtx (G : GP) (B : Bas) (n : Nat) (lm : LmB) (N : List Str) (sc : Scope) (X : Cx) (w : Vw) (W : WX) : Prop where
  c : Ctx G B n lm N true sc X w W X.env.locals
  st : X.stack = X.env :: X.outer
  fr : X.env.frame = some X.env.locals
  pass : PassesOwn (model X.prog X.w) X.A X.env X.xe
  mkx : ∀ (k : Nat) (z : Str) (p pos : Pos) (v : Expr) (m : Fr → M D), xcB G k z = true → glB sc z = true → PySem.W.isStarred v = false → PE X v (tM X w W (RD w) m) → L2N.PMk X (.Call (.Name z p) [v] [] pos) (tMk X w W k m)
section
variable {G : GP} {B : Bas} {n : Nat} {lm : LmB} {N : List Str} {sc : Scope} {X : Cx} {w : Vw} {W : WX}
noncomputable abbrev EVS (G : GP) (n : Nat) (c : CS) : Fr → S := evs G (calls G n).1 (calls G n).2 c
variable (hS : ∀ X w W L, Good B n X w W L → Sta G n X w W)
include hS
theorem par_ok (C : DCtx G B n lm N sc X w W) {i j : Nat} {a b : CE} {t v : Expr} {pos : Pos} (h : mPar G N lm sc i j a b t v = true) :
    PS X (.Assign [t] v pos) (tS X w W (EVS G n (.asg (.tup (.cons (.nm i) (.cons (.nm j) .nil))) (.tup (.cons a (.cons b .nil)))))) := by
  have S := hS _ _ _ _ C.c.good
  unfold mPar at h
  split at h
  · simp only [Bool.and_eq_true, decide_eq_true_eq, Bool.not_eq_true'] at h
    obtain ⟨⟨⟨⟨⟨⟨⟨⟨⟨⟨⟨⟨⟨h1, h2⟩, h3⟩, h4⟩, h5⟩, h6⟩, h7⟩, h8⟩, h9⟩, h10⟩, h11⟩, h12⟩, h13⟩, h14⟩ := h
    have sc_ := C.c.sc_
    have h5 := loc_of h5
    have h6 := loc_of h6
    rw [← sc_] at h4 h5 h6
    rw [← C.c.N_] at h1 h2
    exact ms_par C.c.good.calm C.c.good.nd h1 h2 h3 h5 h6 ((ev_ok hS a).ex _ _ _ _ _ _ _ C.c h13).1 ((ev_ok hS b).ex _ _ _ _ _ _ _ C.c h14).1 h9 h10 (par_two h4 h5 h6 h7 h8 h9 h10 h11 h12)
  · cases h
theorem asg_ok (C : DCtx G B n lm N sc X w W) {tg : Tg} {e : CE} {t v : Expr} {pos : Pos} (h : mA G N lm sc tg e t v = true) : PS X (.Assign [t] v pos) (tS X w W (EVS G n (.asg tg e))) := by
  have S := hS _ _ _ _ C.c.good
  unfold mA at h
  split at h
  · rename_i y gs scope p
    rw [Bool.and_eq_true] at h
    obtain ⟨h1, h2⟩ := h
    split at h2
    · rename_i z py
      split at h2
      · rename_i i
        simp only [Bool.and_eq_true, Bool.or_eq_true, decide_eq_true_eq] at h2
        obtain ⟨⟨⟨h3, h4⟩, h5⟩, h6⟩ := h2
        cases e with
        | lc k a b tg2 c elt =>
          have h1' := h1
          unfold mE at h1
          split at h1
          · rename_i y' t' it ifs az scope' p' heq
            cases heq
            obtain ⟨rfl, P⟩ := lcp_ok hS C.c (ev_ok hS a) (ev_ok hS b) (ev_ok hS c) (ev_ok hS elt) h1'
            have sc_ := C.c.sc_
            rw [← C.c.N_] at h3
            rcases h6 with ⟨⟨h6, h7⟩, h8⟩ | h6
            · have h6 := loc_of h6
              rw [← sc_] at h4 h6
              have h8 : (scope.names.any fun (n, k) => n == z && (k == .local || k == .cell)) = false := by
                unfold noOwn at h8
                simpa using h8
              have key := ms_setLc (spos := pos) (py := py) (pos := p) P h3 h6 (sw_true h4 h6 h7 h8)
              rw [← lc_same (G := G) (n := n)] at key
              exact key
            · have h6 := cel_of h6
              rw [← sc_] at h4 h6
              exact ms_asg (tg := .nm i) ((ev_ok hS (.lc k a b tg2 c elt)).ex _ _ _ _ _ _ _ C.c h1').1 (mg_nm C.c.good.nd h3 (.inr h6) (.inl (by rw [C.c.fnd rfl]))) (show swapsWithSole _ _ _ _ = pure false from sw_cell (l := pos.line) h4 h6) (par_no (by rfl) _) (by rfl)
          · cases h1
        | _ => cases h5
      · cases h2
    · cases h2
  · simp only [Bool.and_eq_true, Bool.not_eq_true'] at h
    obtain ⟨⟨⟨⟨h1, h2⟩, h3⟩, h4⟩, h5⟩ := h
    exact ms_asg ((ev_ok hS e).ex _ _ _ _ _ _ _ C.c h1).1 (tg_ctx C.c S h2) (sole_no h4 _ _) (par_no h5 _) h3
omit hS in
theorem sub_plain {o i : Expr} {pos : Pos} {env : Env} (h : plainB i = true) : ∀ v, assign (.Subscript o i pos) env v = (do
      let ov ← holding [v] (eval o env)
      let iv ← holding [v, ov] (eval i env)
      standAt pos
      holding [v, ov, iv] (setItem ov iv v)
      release [v, ov, iv] []) := fun v => by
  cases i <;> first | rfl | cases h
theorem evs_ok (c : CS) : (∀ x, DCtx G B n lm N sc X w W → mS G N lm sc c x = true → PS X x (tS X w W (EVS G n c))) ∧ (∀ xs, DCtx G B n lm N sc X w W → mSs G N lm sc c xs = true → PSs X xs (tS X w W (EVS G n c))) := by
  have noS : ∀ c : CS, (∀ xs, mSs G N lm sc c xs = false) → ∀ xs, DCtx G B n lm N sc X w W → mSs G N lm sc c xs = true → PSs X xs (tS X w W (EVS G n c)) := fun c k xs _ h => by
    rw [k] at h
    cases h
  induction c with
  | skip =>
    refine ⟨fun x C h => ?_, fun xs C h => ?_⟩
    · unfold mS at h
      split at h
      · exact ms_pass
      · cases h
    · unfold mSs at h
      split at h
      · exact mss_nil
      · cases h
  | seq a b iha ihb =>
    refine ⟨fun x C h => (by unfold mS at h; cases h), fun xs C h => ?_⟩
    unfold mSs at h
    split at h
    · rw [Bool.and_eq_true] at h
      exact mss_cons (iha.1 _ C h.1) (ihb.2 _ C h.2)
    · cases h
  | asg tg e =>
    refine ⟨fun x C h => ?_, noS _ fun _ => rfl⟩
    unfold mS at h
    split at h
    · rw [Bool.or_eq_true] at h
      rcases h with h | h
      · exact asg_ok hS C h
      · unfold parB at h
        split at h
        · exact par_ok hS C h
        · cases h
    · cases h
  | setf o f e =>
    refine ⟨fun x C h => ?_, noS _ fun _ => rfl⟩
    unfold mS at h
    split at h
    · simp only [Bool.and_eq_true, decide_eq_true_eq] at h
      obtain ⟨⟨rfl, h1⟩, h2⟩ := h
      exact ms_fld (hS _ _ _ _ C.c.good) ((ev_ok hS e).ex _ _ _ _ _ _ _ C.c h2).1 ((ev_ok hS o).ex _ _ _ _ _ _ _ C.c h1).1 (sw_attr _ _ _ _ _ _)
    · cases h
  | augf o f op e =>
    refine ⟨fun x C h => ?_, noS _ fun _ => rfl⟩
    unfold mS at h
    split at h
    · simp only [Bool.and_eq_true, decide_eq_true_eq] at h
      obtain ⟨⟨⟨rfl, rfl⟩, h1⟩, h2⟩ := h
      exact ms_fldaug (hS _ _ _ _ C.c.good) op ((ev_ok hS e).ex _ _ _ _ _ _ _ C.c h2).1 ((ev_ok hS o).ex _ _ _ _ _ _ _ C.c h1).1
    · cases h
  | aug i op e =>
    refine ⟨fun x C h => ?_, noS _ fun _ => rfl⟩
    unfold mS at h
    split at h
    · rename_i y p1 p v p2
      simp only [Bool.and_eq_true, Bool.or_eq_true, decide_eq_true_eq] at h
      obtain ⟨⟨⟨h0, rfl⟩, h1⟩, h2⟩ := h
      rw [← C.c.N_] at h0
      have hx : Loc X.env.scope y := by
        rw [C.c.sc_]
        exact h1.elim (fun k => .inl (loc_of k)) fun k => .inr (cel_of k)
      exact ms_aug op C.c.good.nd h0 hx ((ev_ok hS e).ex _ _ _ _ _ _ _ C.c h2).1 (.inl (by rw [C.c.fnd rfl]))
    · cases h
  | seti o i e =>
    refine ⟨fun x C h => ?_, noS _ fun _ => rfl⟩
    unfold mS at h
    split at h
    · simp only [Bool.and_eq_true] at h
      obtain ⟨⟨⟨⟨h0, h1⟩, h2⟩, h3⟩, h4⟩ := h
      exact ms_sub ((ev_ok hS e).ex _ _ _ _ _ _ _ C.c h4).1 ((ev_ok hS o).ex _ _ _ _ _ _ _ C.c h2).1 ((ev_ok hS i).ex _ _ _ _ _ _ _ C.c h3).1 (sole_no h1 _ _) (par_no (by unfold noPar; split <;> rfl) _) (sub_plain h0)
    · cases h
  | ex e =>
    refine ⟨fun x C h => ?_, noS _ fun _ => rfl⟩
    unfold mS at h
    split at h
    · rw [Bool.and_eq_true] at h
      exact ms_expr ((ev_ok hS e).ex _ _ _ _ _ _ _ C.c h.2).1 (sw_no h.1 _ _ _)
    · cases h
  | ite c a b iha ihb =>
    refine ⟨fun x C h => ?_, noS _ fun _ => rfl⟩
    unfold mS at h
    split at h
    · simp only [Bool.and_eq_true] at h
      obtain ⟨⟨⟨h0, h1⟩, h2⟩, h3⟩ := h
      exact ms_if (((ev_ok hS c).ex _ _ _ _ _ _ _ C.c h1).2 h0) (iha.2 _ C h2) (ihb.2 _ C h3)
    · cases h
  | «for» k a b tg body ih =>
    refine ⟨fun x C h => ?_, noS _ fun _ => rfl⟩
    unfold mS at h
    split at h
    · simp only [Bool.and_eq_true] at h
      obtain ⟨⟨h0, h1⟩, h2⟩ := h
      rename_i t it xs p
      obtain ⟨i1, i2⟩ := it_ok (tg := t) hS C.c (ev_ok hS a) (ev_ok hS b) h0
      exact ms_for C.pass C.c.good.calm i1 (tg_ctx C.c (hS _ _ _ _ C.c.good) h1) (ih.2 _ C h2) i2
    · cases h
  | whl c body ih =>
    refine ⟨fun x C h => ?_, noS _ fun _ => rfl⟩
    unfold mS at h
    split at h
    · simp only [Bool.and_eq_true] at h
      obtain ⟨⟨h0, h1⟩, h2⟩ := h
      exact ms_while C.pass (((ev_ok hS c).ex _ _ _ _ _ _ _ C.c h1).2 h0) (ih.2 _ C h2)
    · cases h
  | ret e =>
    refine ⟨fun x C h => ?_, noS _ fun _ => rfl⟩
    unfold mS at h
    split at h
    · exact ms_ret ((ev_ok hS e).ex _ _ _ _ _ _ _ C.c h).1
    · cases h
  | retn =>
    refine ⟨fun x C h => ?_, noS _ fun _ => rfl⟩
    unfold mS at h
    split at h
    · exact ms_retN
    · cases h
  | brk =>
    refine ⟨fun x C h => ?_, noS _ fun _ => rfl⟩
    unfold mS at h
    split at h
    · exact ms_brk
    · cases h
  | cnt =>
    refine ⟨fun x C h => ?_, noS _ fun _ => rfl⟩
    unfold mS at h
    split at h
    · exact ms_cnt
    · cases h
  | raise y k as =>
    refine ⟨fun x C h => ?_, noS _ fun _ => rfl⟩
    unfold mS at h
    split at h
    · split at h
      · simp only [Bool.and_eq_true, decide_eq_true_eq, Bool.not_eq_true'] at h
        obtain ⟨⟨⟨⟨⟨rfl, h1⟩, h2⟩, h3⟩, h4⟩, h5⟩ := h
        rename_i v p1 p2 _ a
        have tk := takes_thr rfl C.c.good.thr
        refine PS.imp (ms_raise C.c.good.calm tk (C.mkx k _ _ _ _ _ h3 h1 h4 ((ev_ok hS a).ex _ _ _ _ _ _ _ C.c h5).1)) fun D σ H hh => ?_
        obtain ⟨fr, c, e, hf, hs, hp⟩ := hh
        refine ⟨fr, c, e, hf, hs, Eq.mp (congrArg (fun r => PostS X w W c r D) ?_) hp⟩
        show exS (bnd (EV G n a fr) fun x => bnd (ret (.tup [])) (consM x)) fr _ c.st = exS (EV G n a fr) fr _ c.st
        rw [exS_bnd]
        rfl
      · cases h
    · cases h
end
end MI

set_option Elab.async false
set_option linter.all false
set_option maxRecDepth 100000
set_option maxHeartbeats 16000000
/-! MINI, part 26: calls of defs. -/
namespace MI
open PySem PySem.Spec PyProof.Rows L2
/-! ### a frame's own cells, laid and killed -/
theorem capsFrom_get : ∀ {caps : List Nat} {n i l : Nat}, (capsFrom n caps).lookup i = some l → ∃ k, caps[k]? = some i ∧ l = n + k
  | [], _, _, _, h => by cases h
  | j :: r, n, i, l, h => by
    unfold capsFrom at h
    rw [List.lookup_cons] at h
    cases q : i == j with
    | true =>
      rw [q] at h
      cases h
      exact ⟨0, by simp [eq_of_beq q], rfl⟩
    | false =>
      rw [q] at h
      obtain ⟨k, h1, h2⟩ := capsFrom_get h
      exact ⟨k + 1, by simpa using h1, by omega⟩
theorem capsFrom_has : ∀ {caps : List Nat} {n k i : Nat}, caps.Nodup → caps[k]? = some i → (capsFrom n caps).lookup i = some (n + k)
  | [], _, _, _, _, h => by simp at h
  | j :: r, n, 0, i, nd, h => by
    have : j = i := by simpa using h
    subst this
    unfold capsFrom
    rw [List.lookup_cons, beq_self_eq_true]
    rfl
  | j :: r, n, k + 1, i, nd, h => by
    have h : r[k]? = some i := by simpa using h
    have hne : (i == j) = false := by
      have := (List.nodup_cons.mp nd).1
      rw [beq_eq_false_iff_ne]
      rintro rfl
      exact this (List.mem_of_getElem? h)
    unfold capsFrom
    rw [List.lookup_cons, hne]
    have := capsFrom_has (n := n + 1) (List.nodup_cons.mp nd).2 h
    simp only
    rw [this]
    congr 1
    omega
theorem killC_out {st : Store} {n l : Nat} : ∀ {k : Nat}, ¬ (n ≤ l ∧ l < n + k) → (killC st n k)[l]? = st[l]?
  | 0, _ => rfl
  | k + 1, h => by
    unfold killC
    rw [List.getElem?_set_ne (by omega)]
    exact killC_out (by omega)
theorem killC_len {st : Store} {n : Nat} : ∀ {k : Nat}, (killC st n k).length = st.length
  | 0 => rfl
  | k + 1 => by
    unfold killC
    rw [List.length_set]
    exact killC_len
theorem killC_in {st : Store} {n l : Nat} {b : Ob} : ∀ {k : Nat}, n ≤ l → l < n + k → (killC st n k)[l]? = some b → b = .cell none
  | 0, h1, h2, _ => by omega
  | k + 1, h1, h2, h => by
    unfold killC at h
    by_cases q : n + k = l
    · subst q
      have hl := lt_of_get h
      rw [List.length_set] at hl
      rw [List.getElem?_set_self hl] at h
      cases h
      rfl
    · rw [List.getElem?_set_ne q] at h
      exact killC_in h1 (by omega) h
def ownL (n k : Nat) : List Nat := (List.range k).map (n + ·)
theorem mem_ownL {n k l : Nat} : l ∈ ownL n k ↔ n ≤ l ∧ l < n + k := by
  unfold ownL
  rw [List.mem_map]
  constructor
  · rintro ⟨j, h, rfl⟩
    have := List.mem_range.mp h
    exact ⟨by omega, by omega⟩
  · rintro ⟨h1, h2⟩
    exact ⟨l - n, List.mem_range.mpr (by omega), by omega⟩
/-- cells laid -/
def laidC (c : Cf) (as : List Addr) (ds : List (Option D)) : Cf := ⟨c.φ ++ as, c.H, c.st ++ ds.map .cell⟩
section
variable {c : Cf} {as : List Addr} {ds : List (Option D)} {w : Vw}
theorem laid_new {l : Nat} {b : Ob} (h : (c.st ++ ds.map .cell)[l]? = some b) : c.st[l]? = some b ∨ (c.st.length ≤ l ∧ l < c.st.length + ds.length ∧ ∃ d, b = .cell d) := by
  rcases Nat.lt_or_ge l c.st.length with q | q
  · rw [List.getElem?_append_left q] at h
    exact .inl h
  · rw [List.getElem?_append_right q, List.getElem?_map] at h
    cases e : ds[l - c.st.length]? with
    | none => rw [e] at h; cases h
    | some d =>
      rw [e] at h
      cases h
      have := lt_of_get e
      exact .inr ⟨q, by omega, d, rfl⟩
theorem on_laid {a : Addr} (hl : c.φ.length = c.st.length) (h : On (laidC c as ds) a) : On c a := by
  obtain ⟨l, b, e, t, f⟩ := h
  rcases laid_new e with e | ⟨_, _, d, rfl⟩
  · refine ⟨l, b, e, t, ?_⟩
    have f : (c.φ ++ as)[l]? = some a := f
    rw [List.getElem?_append_left (by rw [hl]; exact lt_of_get e)] at f
    exact f
  · cases t
theorem mono_laid (hl : c.φ.length = c.st.length) : Mono [] c (laidC c as ds) where
  pre := fun _ _ h => get_append_old h
  imm := fun _ _ h _ => h
  oth := fun _ _ h _ _ => h
  tbl := fun _ ps h => ⟨#[], by rw [Array.append_empty]; exact h⟩
  new := fun a h => .inl (on_laid hl h)
  cel := fun _ _ _ h => get_append_old h
  knd := fun _ o h => ⟨o, get_append_old h, kindEq.refl o⟩
theorem SR.laid (s : SR w c) (hn : as.length = ds.length) (hw : ∀ l, c.st.length ≤ l → l < c.st.length + ds.length → l ∈ w.own) : SR w (laidC c as ds) where
  len := by simp [laidC, s.len, hn]
  tabs := s.tabs
  nd := fun l l' b b' a e1 e2 t1 t2 f1 f2 => by
    have key : ∀ l b, (c.st ++ ds.map Ob.cell)[l]? = some b → trkB b = true → (c.φ ++ as)[l]? = some a → c.st[l]? = some b ∧ c.φ[l]? = some a := fun l b e t f => by
      rcases laid_new e with e | ⟨_, _, d, rfl⟩
      · rw [List.getElem?_append_left (by rw [s.len]; exact lt_of_get e)] at f
        exact ⟨e, f⟩
      · cases t
    obtain ⟨g1, g2⟩ := key l b e1 t1 f1
    obtain ⟨g3, g4⟩ := key l' b' e2 t2 f2
    exact s.nd l l' b b' a g1 g3 t1 t2 g2 g4
  ob := fun l b a e f => by
    rcases laid_new e with e | ⟨h1, h2, d, rfl⟩
    · have f : (c.φ ++ as)[l]? = some a := f
      rw [List.getElem?_append_left (by rw [s.len]; exact lt_of_get e)] at f
      exact (s.ob l b a e f).ime_keep (c' := laidC c as ds) (mono_laid s.len).ime fun _ _ h => h
    · exact .inl (hw l h1 h2)
/-- behind the frame's end -/
theorem mono_kill {c' : Cf} (hl : c.φ.length = c.st.length) (m : Mono (ownL c.st.length ds.length) (laidC c as ds) c') : Mono [] c ⟨c'.φ, c'.H, killC c'.st c.st.length ds.length⟩ where
  pre := fun l a h => m.pre l a (get_append_old h)
  imm := m.imm
  oth := fun a o h n t => m.oth a o h (fun q => n (on_laid hl q)) t
  tbl := m.tbl
  new := fun a ⟨l, b, e, t, f⟩ => by
    have e2 : c'.st[l]? = some b := by
      by_cases q : c.st.length ≤ l ∧ l < c.st.length + ds.length
      · have := killC_in q.1 q.2 e
        subst this
        cases t
      · rw [← killC_out q]
        exact e
    rcases m.new a ⟨l, b, e2, t, f⟩ with z | z
    · exact .inl (on_laid hl z)
    · exact .inr z
  cel := fun l d _ h => by
    have hlt := lt_of_get h
    show (killC c'.st c.st.length ds.length)[l]? = _
    rw [killC_out (by omega)]
    exact m.cel l d (fun z => by have := mem_ownL.mp z; omega) (get_append_old h)
  knd := fun l o h => by
    have hlt := lt_of_get h
    obtain ⟨o', e, k⟩ := m.knd l o (get_append_old h)
    exact ⟨o', by show (killC c'.st c.st.length ds.length)[l]? = _; rw [killC_out (by omega)]; exact e, k⟩
theorem sr_kill {X : Cx} {wY : Vw} {s : Shared} {c' : Cf} {n k : Nat} (h : SR wY c') (hs : Same w wY) (ho : wY.own = ownL n k) (hk : wY.kc = (inner X w s).kc) : SR w ⟨c'.φ, c'.H, killC c'.st n k⟩ := by
  have key : ∀ l b, (killC c'.st n k)[l]? = some b → b = .cell none ∨ (c'.st[l]? = some b ∧ ¬ (n ≤ l ∧ l < n + k)) := fun l b e => by
    by_cases q : n ≤ l ∧ l < n + k
    · exact .inl (killC_in q.1 q.2 e)
    · rw [killC_out q] at e
      exact .inr ⟨e, q⟩
  refine ⟨h.len.trans killC_len.symm, fun l l' b b' a e1 e2 t1 t2 f1 f2 => ?_, fun l b a e f => ?_, by rw [← hs.T]; exact h.tabs⟩
  · rcases key l b e1 with rfl | ⟨g1, _⟩
    · cases t1
    · rcases key l' b' e2 with rfl | ⟨g2, _⟩
      · cases t2
      · exact h.nd l l' b b' a g1 g2 t1 t2 f1 f2
  · rcases key l b e with rfl | ⟨e, q⟩
    · exact .inr (.inl rfl)
    · have kk := h.ob l b a e f
      cases b with
      | lst ds =>
        obtain ⟨xs, h1, h2⟩ := kk
        exact ⟨xs, h1, h2.vw hs.symm⟩
      | fro ds =>
        obtain ⟨o, xs, h1, h2⟩ := kk
        exact ⟨o, xs, h1, h2.vw hs.symm⟩
      | ins c fs =>
        obtain ⟨dx, gs, h1, h2, h3⟩ := kk
        exact ⟨dx, gs, by rw [← hs.ca]; exact h1, h2, h3.vw hs.symm⟩
      | dct kvs => exact kk
      | cell d =>
        rcases kk with z | z | ⟨o, u, v, d', e1, h2, h3, h4, h5⟩
        · rw [ho] at z
          exact absurd (mem_ownL.mp z) q
        · exact .inr (.inl z)
        · rw [hk] at h5
          rcases h5 with h5 | ⟨h5, _⟩
          · exact .inr (.inr ⟨o, u, v, d', e1, h2, h3, h4.vw hs.symm, h5⟩)
          · exact .inl h5
end
end MI

set_option Elab.async false
set_option linter.all false
set_option maxRecDepth 100000
set_option maxHeartbeats 16000000
/-! MINI, part 27: a def's body runs as the evaluator says. -/
namespace MI
open PySem PySem.Spec PyProof.Rows L2
/-- a def as it stands in the program -/
structure FnD where
  N : List Str
  ps : List Str
  name : Str
  qual : Str
  params : Arguments
  body : List Stmt
  scope : Scope
  dV : Value
  kV : Value
  doc : Value
  pm : Value
  cdv : Value
  ct : Value
  oc : Value
  an : Option Addr
  od : Option Addr
  osl : Array (Option Value)
abbrev FnD.fd (d : FnD) : FuncData := PySem.W.fnOf d.name d.qual d.params d.body d.scope d.dV d.kV d.doc d.pm d.an d.cdv d.ct
/-- it is the code c -/
structure FnS (G : GP) (B : Bas) (lm : LmB) (f : Nat) (c : Code) (d : FnD) : Prop where
  lk : B.K.lookup (B.w.fa f) = some ⟨d.oc, d.od, .func d.fd, d.osl⟩
  cd : PySem.W.codeIn B.K d.cdv d.qual = true
  sc : FnScope d.N d.ps d.scope
  bi : L2.Binds B.K d.fd d.ps []
  ar : c.arity = d.ps.length
  ns : c.nslot = d.N.length
  cn : c.caps.Nodup
  cs : ∀ i ∈ c.caps, ∃ x, d.N[i]? = some x ∧ d.scope.names.lookup x = some .cell
  bd : mSs G d.N lm d.scope c.body d.body = true
/-- what else a body's context gives: lambdas, exceptions -/
def BodyOk (G : GP) (B : Bas) (lm : LmB) (n : Nat) (d : FnD) : Prop := ∀ (Y : Cx) (w : Vw) (W : WX), Good B n Y w W Y.env.locals → Y.N = d.N → Y.env.scope = d.scope → Y.env.code = d.cdv → Y.env.qual = d.qual ++ ".<locals>." →
  (∀ k caps ps body scope pos, lm k caps ps body scope = true → PE Y (.Lambda ps body scope pos) (tM Y w W (RD w) fun fr => match capsL fr.cp caps with
    | some ls => ret (.clo k ls)
    | none => no)) ∧
  ∀ (k : Nat) (z : Str) (p pos : Pos) (v : Expr) (m : Fr → M D), xcB G k z = true → glB d.scope z = true → PySem.W.isStarred v = false → PE Y v (tM Y w W (RD w) m) → L2N.PMk Y (.Call (.Name z p) [v] [] pos) (tMk Y w W k m)
theorem Post.ends {X Y : Cx} {w wY : Vw} {s : Shared} {c : Cf} {as : List Addr} {ds : List (Option D)} {r : Option (Out × Store)} {Q : VK} {E : XK} (hl : c.φ.length = c.st.length) (hs : Same w wY) (ho : wY.own = ownL c.st.length ds.length) (hk : wY.kc = (inner X w s).kc)
    (h : Post w (RD w) c (endF c.st.length ds.length (ofOut r)) Q E) : PostS Y wY (fun cls da _ H => E cls da H) (laidC c as ds) r { nx := fun _ H' => Q .non H', rt := Q } := by
  cases r with
  | none => exact h
  | some p =>
    obtain ⟨o, st⟩ := p
    cases o with
    | nx fr => exact fun φ H σ m s' f => h φ H .non (mono_kill hl (by rw [← ho]; exact m)) (sr_kill s' hs ho hk) (rep_non.mpr rfl)
    | rt d => exact fun φ H v m s' f => h φ H v (mono_kill hl (by rw [← ho]; exact m)) (sr_kill s' hs ho hk) (f.vw hs.symm)
    | bk fr => exact h.elim
    | ct fr => exact h.elim
    | xx x fr => exact fun φ H σ cls da m s' f e => h φ H cls da (mono_kill hl (by rw [← ho]; exact m)) (sr_kill s' hs ho hk) (e.vw hs.symm)
/-- a body's view, entered from X at s -/
def bodyV (X : Cx) (w : Vw) (s : Shared) (n k : Nat) : Vw := { inner X w s with own := ownL n k }
theorem body_same {X : Cx} {w : Vw} {s : Shared} {n k : Nat} : Same w (bodyV X w s n k) := ⟨rfl, rfl, rfl, rfl, rfl, rfl, rfl⟩
theorem body_same2 {X : Cx} {w : Vw} {s : Shared} {n k : Nat} : Same (inner X w s) (bodyV X w s n k) := ⟨rfl, rfl, rfl, rfl, rfl, rfl, rfl⟩
theorem startF_get {c : Code} {ds : List D} {i : Nat} {d : D} (h : (startF c ds)[i]? = some (some d)) : ds[i]? = some d := by
  unfold startF at h
  rcases Nat.lt_or_ge i ds.length with q | q
  · rw [List.getElem?_append_left (by simpa using q), List.getElem?_map] at h
    cases e : ds[i]? with
    | none => rw [e] at h; cases h
    | some x => rw [e] at h; cases h; rfl
  · rw [List.getElem?_append_right (by simpa using q), List.getElem?_replicate] at h
    split at h <;> cases h
theorem start_get {N : List Str} {vs : List V} {i : Nat} {v : V} (h : vs[i]? = some v) : (L2.start N vs)[i]? = some (some v) := by
  unfold L2.start
  rw [List.getElem?_append_left (by simpa using lt_of_get h), List.getElem?_map, h]
  rfl
theorem start_len {N : List Str} {vs : List V} (h : vs.length ≤ N.length) : (L2.start N vs).length = N.length := by
  unfold L2.start
  simp
  omega
section
variable {G : GP} {B : Bas} {n : Nat}
/-- the entry of a body -/
theorem enter {X : Cx} {w : Vw} {W : WX} {L : Addr} {pins : List (Addr × Obj)} {σ : L2.St} {s : Shared} {c0 : Cf} {c : Code} {d : FnD} {lm : LmB} {f : Nat} {vs : List V} {ds : List D} {fr : Fr} {E : XK} (g : Good B (n + 1) X w W L) (F : FnS G B lm f c d) (hb : BodyOk G B lm n d) (I : Inv X pins σ c0.H s) (hf : FrR X w fr σ c0) (hs : SR w c0)
    (hr : RepL w c0.φ c0.H ds vs) (hl : ds.length = c.arity) (fa : Addr) (A : Around) (hroom : Room (2 * n + 2) (A.deeper (envOfC d.qual d.scope s.heap.objs.size fa d.cdv))) {Q : VK} (hp : Post w (RD w) c0 (endF c0.st.length c.caps.length (ofOut (EVS G n c.body ⟨startF c ds, capsFrom c0.st.length c.caps⟩ (c0.st ++ c.caps.map fun i => Ob.cell ((startF c ds)[i]?.join))))) Q E) :
    ∃ (wY : Vw), DCtx G B n lm d.N d.scope (cxOf (L2N.CX X.prog X.w) X.prog X.w X.K X.mg X.base d.N d.qual d.scope fa d.cdv A X.stack s c0.H E) wY (fun cls da _ H => E cls da H) ∧
      tS (cxOf (L2N.CX X.prog X.w) X.prog X.w X.K X.mg X.base d.N d.qual d.scope fa d.cdv A X.stack s c0.H E) wY (fun cls da _ H => E cls da H) (EVS G n c.body) { nx := fun _ H' => Q .non H', rt := Q } (L2.start d.N vs) c0.H := by
  refine ⟨bodyV X w s c0.st.length c.caps.length, ?_, ?_⟩
  · have view : Same w (bodyV X w s c0.st.length c.caps.length) := body_same
    have good : Good B n (cxOf (L2N.CX X.prog X.w) X.prog X.w X.K X.mg X.base d.N d.qual d.scope fa d.cdv A X.stack s c0.H E) (bodyV X w s c0.st.length c.caps.length) (fun cls da _ H => E cls da H) (cxOf (L2N.CX X.prog X.w) X.prog X.w X.K X.mg X.base d.N d.qual d.scope fa d.cdv A X.stack s c0.H E).env.locals := by
      refine ⟨g.prog, g.wd, g.K, g.mg, g.base, g.view.trans view, rfl, F.sc.nd, hroom, thr_of rfl rfl (L2N.takes_of (E := E) rfl rfl rfl rfl), fun l a o hk => ?_⟩
      obtain ⟨k1, k2, k3, _⟩ := kc_in g.kc I (show (inner X w s).kc l a o from hk)
      exact ⟨k1, k2, k3, fun z => by cases z⟩
    have bo := hb _ _ _ good rfl rfl rfl rfl
    exact ⟨⟨good, rfl, rfl, fun _ => rfl, fun _ => bo.1⟩, rfl, rfl, passes_of rfl, bo.2⟩
  · have hvl : vs.length = d.ps.length := by rw [← hr.length, hl, F.ar]
    have hle : d.ps.length ≤ d.N.length := by
      have := congrArg List.length F.sc.pre
      rw [List.length_take] at this
      omega
    have cellAt : ∀ i, i ∈ c.caps → ∃ x a, d.N[i]? = some x ∧ d.scope.names.lookup x = some .cell ∧ (cellsFrom (s.heap.objs.size + 1) d.scope.names []).lookup x = some a := fun i hi => by
      obtain ⟨x, h1, h2⟩ := F.cs i hi
      obtain ⟨a, h3⟩ := cell_has (n := s.heap.objs.size + 1) h2
      exact ⟨x, a, h1, h2, h3⟩
    have e1 : (c.caps.map fun i => Ob.cell ((startF c ds)[i]?.join)) = (c.caps.map fun i => (startF c ds)[i]?.join).map .cell := by
      rw [List.map_map]
      rfl
    rw [e1] at hp
    have el : c.caps.length = (c.caps.map fun i => (startF c ds)[i]?.join).length := by simp
    have hp2 : Post w (RD w) c0 (endF c0.st.length (c.caps.map fun i => (startF c ds)[i]?.join).length (ofOut (EVS G n c.body ⟨startF c ds, capsFrom c0.st.length c.caps⟩ (laidC c0 (c.caps.map fun i => ((d.N[i]?.bind fun x => (cellsFrom (s.heap.objs.size + 1) d.scope.names []).lookup x)).getD 0) (c.caps.map fun i => (startF c ds)[i]?.join)).st))) Q E := by
      rw [← el]
      exact hp
    have sin := sr_in I hf hs
    refine ⟨⟨startF c ds, capsFrom c0.st.length c.caps⟩, laidC c0 (c.caps.map fun i => ((d.N[i]?.bind fun x => (cellsFrom (s.heap.objs.size + 1) d.scope.names []).lookup x)).getD 0) (c.caps.map fun i => (startF c ds)[i]?.join), rfl, ?_, ?_, Post.ends (X := X) (w := w) (s := s) hs.len body_same (by rw [← el]; rfl) rfl hp2⟩
    · refine ⟨?_, fun i e h => ?_, fun i l h => ?_, fun l h => ?_⟩
      · show (startF c ds).length = _
        rw [start_len (by omega)]
        unfold startF
        simp
        have := F.ns
        have := F.ar
        omega
      · obtain ⟨v, h1, h2⟩ := hr.get (startF_get h)
        exact ⟨v, start_get h1, (h2.mono (mono_laid hs.len)).vw body_same⟩
      · obtain ⟨k, h1, rfl⟩ := capsFrom_get h
        obtain ⟨x, a, h2, h3, h4⟩ := cellAt i (List.mem_of_getElem? h1)
        refine ⟨mem_ownL.mpr ⟨by omega, by have := lt_of_get h1; omega⟩, x, a, h2, h4, h3, rfl, ?_, ?_⟩
        · show (c0.φ ++ _)[c0.st.length + k]? = some a
          rw [List.getElem?_append_right (by rw [hs.len]; omega), hs.len, show c0.st.length + k - c0.st.length = k by omega, List.getElem?_map, h1]
          simp [h2, h4]
        · show (c0.st ++ _)[c0.st.length + k]? = _
          rw [List.getElem?_append_right (by omega), show c0.st.length + k - c0.st.length = k by omega, List.getElem?_map, List.getElem?_map, h1]
          rfl
      · obtain ⟨h1, h2⟩ := mem_ownL.mp h
        have hk : l - c0.st.length < c.caps.length := by omega
        exact ⟨c.caps[l - c0.st.length], by
          show (capsFrom c0.st.length c.caps).lookup _ = some l
          rw [capsFrom_has F.cn (List.getElem?_eq_getElem hk)]
          congr 1
          omega⟩
    · refine SR.laid (w := bodyV X w s c0.st.length c.caps.length) (sin.vw body_same2 fun l a dd e f k => ?_) (by simp) fun l h1 h2 => mem_ownL.mpr ⟨h1, by rw [el]; exact h2⟩
      rcases k with k | k
      · cases k
      · exact .inr k
/-- a def called, from whatever stands around it -/
theorem body_run (hS : ∀ X w W L, Good B n X w W L → Sta G n X w W) {c : Code} {d : FnD} {lm : LmB} {f : Nat} (F : FnS G B lm f c d) (hb : BodyOk G B lm n d) {X : Cx} {w : Vw} {W : WX} {L : Addr} (g : Good B (n + 1) X w W L) {pins : List (Addr × Obj)} {σ : L2.St} {s : Shared} {c0 : Cf} {vs : List V} {us : List Value} {ds : List D} {fr : Fr} {E : XK} {Q : VK} {A : Around}
    (I : Inv X pins σ c0.H s) (e0 : Env0 X.prog X.w X.K X.mg X.base A X.stack s c0.H) (room : Room (2 * n + 3) A) (hf : FrR X w fr σ c0) (hs : SR w c0) (r : Vals vs us) (hr : RepL w c0.φ c0.H ds vs) (hp : PostM w (RD w) c0 (runCode G (calls G n).1 (calls G n).2 c ds) Q E) :
    codeAny (model X.prog X.w) A (.call (.ref (w.fa f)) ⟨us, []⟩) (CR (L2N.CX X.prog X.w) X.stack X.prog X.w c0.H s Q E) s := by
  unfold PostM runCode at hp
  by_cases hl : ds.length = c.arity
  · rw [if_pos hl] at hp
    have efa : w.fa f = B.w.fa f := by rw [g.view.fa]
    have lk := F.lk
    rw [← efa, ← g.K] at lk
    have cd := F.cd
    rw [← g.K] at cd
    have bi := F.bi
    rw [← g.K] at bi
    have hul : us.length = d.ps.length := by rw [← r.length, ← hr.length, hl, F.ar]
    have bt := bi s us I.kIn (by rw [List.append_nil]; exact hul)
    rw [List.append_nil] at bt
    refine LamX.run_ofS (N := d.N) (ps := d.ps) lk cd F.sc (k := 2 * n + 2) room e0 bt r (by rw [← hr.length, hl, F.ar]) fun hroom => ?_
    obtain ⟨wY, C, ht⟩ := enter (E := E) g F hb I hf hs hr hl (w.fa f) A hroom hp
    exact ⟨_, (evs_ok hS c.body).2 _ C F.bd, ht⟩
  · rw [if_neg hl] at hp
    exact False.elim hp
/-- a def called -/
theorem run_code (hS : ∀ X w W L, Good B n X w W L → Sta G n X w W) {c : Code} {d : FnD} {lm : LmB} {f : Nat} (F : FnS G B lm f c d) (hb : BodyOk G B lm n d) {X : Cx} {w : Vw} {W : WX} {L : Addr} (g : Good B (n + 1) X w W L) : RunOk X w W (runCode G (calls G n).1 (calls G n).2 c) (.ref (w.fa f)) := by
  intro pins s σ vs us c0 ds Q I r hs hr ⟨fr, hf⟩ hp
  refine wpAny_call (codeAny_mono (body_run hS F hb g I I.env0 (g.room.mono (by omega)) hf hs r hr hp) fun r s' hq => ?_)
  cases r with
  | error e => exact g.thr.call I (fun _ _ _ h => h) hq
  | ok fl =>
    cases fl with
    | ret u => exact I.after hq
    | next => exact False.elim hq
    | brk => exact False.elim hq
    | cont => exact False.elim hq
/-- an instance made -/
theorem run_mk (hS : ∀ X w W L, Good B n X w W L → Sta G n X w W) {c : Code} {d : FnD} {lm : LmB} {f k : Nat} (F : FnS G B lm f c d) (hb : BodyOk G B lm n d) {X : Cx} {w : Vw} {W : WX} {L : Addr} (g : Good B (n + 1) X w W L) (M : Mk X.K (w.ca k) (w.fa f)) :
    RunOk X w W (fun as => bnd (alloc (.ins k [])) fun x => bnd (runCode G (calls G n).1 (calls G n).2 c (x :: as)) fun r => match r with
      | .non => ret x
      | _ => no) (.ref (w.ca k)) := by
  intro pins s σ vs us c0 ds Q I r hs hr ⟨fr, hf⟩ hp
  have n1 : c0.H (s.heap.objs.size + 1) = none := I.hok.fresh (Nat.le_succ _)
  have n0 : c0.H s.heap.objs.size = none := I.hok.fresh (Nat.le_refl _)
  have ne : s.heap.objs.size + 1 ≠ s.heap.objs.size := Nat.ne_of_gt (Nat.lt_succ_self _)
  have I2 := Inv.made (C := w.ca k) I
  have n1' : (upd c0.H s.heap.objs.size (.own (s.heap.objs.size + 1))) (s.heap.objs.size + 1) = none := by rw [upd_ne ne]; exact n1
  have m1 : Mono [] c0 ⟨c0.φ, upd c0.H s.heap.objs.size (.own (s.heap.objs.size + 1)), c0.st⟩ := Mono.fresh n0
  have s1 := hs.fresh (o := .own (s.heap.objs.size + 1)) n0
  have m2 : Mono [] ⟨c0.φ, upd c0.H s.heap.objs.size (.own (s.heap.objs.size + 1)), c0.st⟩ ⟨c0.φ ++ [s.heap.objs.size + 1], upd (upd c0.H s.heap.objs.size (.own (s.heap.objs.size + 1))) (s.heap.objs.size + 1) (.ins (w.ca k) s.heap.objs.size []), c0.st ++ [.ins k []]⟩ := Mono.alloc n1' hs.len
  have s2 : SR w ⟨c0.φ ++ [s.heap.objs.size + 1], upd (upd c0.H s.heap.objs.size (.own (s.heap.objs.size + 1))) (s.heap.objs.size + 1) (.ins (w.ca k) s.heap.objs.size []), c0.st ++ [.ins k []]⟩ := s1.alloc n1' ⟨s.heap.objs.size, [], upd_same, rfl, RepL.nil⟩
  have m := m1.trans m2
  have rx : Rep w (c0.φ ++ [s.heap.objs.size + 1]) (upd (upd c0.H s.heap.objs.size (.own (s.heap.objs.size + 1))) (s.heap.objs.size + 1) (.ins (w.ca k) s.heap.objs.size [])) (.loc c0.st.length) (.ref (s.heap.objs.size + 1)) := rep_loc.mpr ⟨_, rfl, by rw [← hs.len]; simp⟩
  have hp2 : PostM w (RD w) ⟨c0.φ ++ [s.heap.objs.size + 1], upd (upd c0.H s.heap.objs.size (.own (s.heap.objs.size + 1))) (s.heap.objs.size + 1) (.ins (w.ca k) s.heap.objs.size []), c0.st ++ [.ins k []]⟩ (bnd (runCode G (calls G n).1 (calls G n).2 c (.loc c0.st.length :: ds)) fun r => match r with
      | .non => ret (D.loc c0.st.length)
      | _ => no) Q (WE W σ) := Post.later m hp
  have hp3 := PostM.bn (R' := RD w) hp2
  refine wpAny_call (make_map (f := w.fa f) I.kIn M.makes M.init (beq_iff_eq.mp M.fn) (codeAny_mono (body_run (A := _) hS F hb g (c0 := ⟨c0.φ ++ [s.heap.objs.size + 1], upd (upd c0.H s.heap.objs.size (.own (s.heap.objs.size + 1))) (s.heap.objs.size + 1) (.ins (w.ca k) s.heap.objs.size []), c0.st ++ [.ins k []]⟩) (vs := .ref (s.heap.objs.size + 1) :: vs) (us := .ref (s.heap.objs.size + 1) :: us) I2 (I2.env0.make (w.ca k) us []) (g.room.make (w.ca k) us []) (hf.mono m) s2 (.cons rfl r) (.cons rx (hr.mono m)) hp3) fun r s' hq => ?_))
  cases r with
  | error e => exact g.thr.call I2 (fun _ _ _ h => h) hq
  | ok fl =>
    cases fl with
    | ret u =>
      obtain ⟨v, H', I3, rv, dr, c3, e3, mo, s3, rr, hp4⟩ := I2.after hq
      subst e3
      cases dr with
      | non =>
        have ev := rep_non.mp rr
        subst ev
        exact ⟨rv, ⟨V.ref (s.heap.objs.size + 1), c3.H, I3, rfl, PostM.rt (R := RD w) hp4 s3 (rx.mono mo)⟩⟩
      | _ => exact False.elim hp4
    | next => exact False.elim hq
    | brk => exact False.elim hq
    | cont => exact False.elim hq
end
end MI

set_option Elab.async false
set_option linter.all false
set_option maxRecDepth 100000
set_option maxHeartbeats 16000000
/-! MINI, part 28: calls to every depth. -/
namespace MI
open PySem PySem.Spec PyProof.Rows L2
/-- the program's facts that no context changes -/
structure St0 (G : GP) (B : Bas) : Prop where
  hK : B.w.K = B.K
  int : ∀ x i, G.cints.lookup x = some i → ∃ t, B.mg x = some (.int i t)
  str : ∀ x z, G.cstrs.lookup x = some z → ∃ t, B.mg x = some (.str z t)
  fre : ∀ x, x ∈ G.cfree → B.mg x = none
  fun_ : ∀ f x b, G.funs[f]? = some ⟨(x, none), b⟩ → B.mg x = some (.ref (B.w.fa f)) ∧ PySem.W.keepIn B.K (.ref (B.w.fa f)) = true
  gcl : ∀ c C, G.cls[c]? = some C → B.mg C.name = some (.ref (B.w.ca c)) ∧ Cls B.K (B.w.ca c) ∧ Mk B.K (B.w.ca c) (B.w.fa C.init)
  met : ∀ c C m f, G.cls[c]? = some C → C.meths.lookup m = some f → Meth B.K (B.w.ca c) m (B.w.fa f)
  noa : ∀ c f, fldOk G c f = true → NoAttr B.K (B.w.ca c) f
  ini : ∀ (c : Nat) (C : Cl), G.cls[c]? = some C → ∃ (F : MI.Fn) (k : MI.Code), G.funs[C.init]? = some F ∧ F.fb = FB.code k
section
variable {G : GP} {B : Bas}
theorem sta_of (S : St0 G B) {n : Nat} {X : Cx} {w : Vw} {W : WX} {L : Addr} (g : Good B n X w W L) (run : ∀ f, RunOk X w W ((calls G n).1 f) (.ref (w.fa f))) (mke : ∀ c, RunOk X w W (makeD G (calls G n).1 c) (.ref (w.ca c))) : Sta G n X w W where
  hK := by rw [g.view.K, S.hK, g.K]
  calm := g.calm
  nd := g.nd
  un := g.room.units
  int := by rw [g.mg]; exact S.int
  str := by rw [g.mg]; exact S.str
  fre := by rw [g.mg]; exact S.fre
  fun_ := by rw [g.mg, g.K, g.view.fa]; exact S.fun_
  gcl := by rw [g.mg, g.K, g.view.fa, g.view.ca]; exact S.gcl
  met := by rw [g.K, g.view.fa, g.view.ca]; exact S.met
  noa := by rw [g.K, g.view.ca]; exact S.noa
  run := run
  mke := mke
theorem run_no {X : Cx} {w : Vw} {W : WX} {m : List D → M D} {v : Value} (h : ∀ as, m as = no) : RunOk X w W m v := fun pins s σ vs us c ds Q I r hs hr hf hp => by
  rw [h] at hp
  exact False.elim hp
abbrev HS (G : GP) (B : Bas) (n : Nat) : Prop := ∀ X w W L, Good B n X w W L → Sta G n X w W
/-- what a closure's trial comes to -/
noncomputable def heardM (G : GP) (n : Nat) (names : List (Nat × List (Str × Bool))) : List D → M D := fun as => match as with
  | [.clo k ls] => fun st => heardD names ((calls G n).2 k ls [] st)
  | _ => no
/-- a function's proof -/
def FunOk (G : GP) (B : Bas) (f : Nat) (F : MI.Fn) : Prop := match F.fb with
  | .code c => ∃ lm d, FnS G B lm f c d ∧ ∀ n, HS G B n → BodyOk G B lm n d
  | .heard names => ∀ n, (∀ m, m ≤ n → HS G B m) → ∀ X w W L, Good B (n + 1) X w W L → RunOk X w W (heardM G n names) (.ref (w.fa f))
theorem calls_none {n f : Nat} (h : G.funs[f]? = none) (as : List D) : (calls G (n + 1)).1 f as = no := by
  simp only [calls, h]
theorem calls_code {n f : Nat} {p : Str × Option Str} {c : MI.Code} (h : G.funs[f]? = some ⟨p, .code c⟩) : (calls G (n + 1)).1 f = runCode G (calls G n).1 (calls G n).2 c := by
  funext as
  simp only [calls, h]
theorem calls_heard {n f : Nat} {p : Str × Option Str} {names : List (Nat × List (Str × Bool))} (h : G.funs[f]? = some ⟨p, .heard names⟩) : (calls G (n + 1)).1 f = heardM G n names := by
  funext as
  simp only [calls, h]
  rfl
theorem all_upto (S : St0 G B) (hF : ∀ f F, G.funs[f]? = some F → FunOk G B f F) : ∀ n m, m ≤ n → HS G B m
  | 0, m, hm => by
    obtain rfl : m = 0 := Nat.le_zero.mp hm
    exact fun X w W L g => sta_of S g (fun f => run_no fun _ => rfl) fun c => run_no fun as => by
      funext st
      unfold makeD
      cases G.cls[c]? with
      | none => rfl
      | some C => rfl
  | n + 1, m, hm => by
      have hA := all_upto S hF n
      rcases Nat.lt_or_eq_of_le hm with hm | rfl
      · exact hA m (Nat.le_of_lt_succ hm)
      intro X w W L g
      have hS := hA n (Nat.le_refl n)
      refine sta_of S g (fun f => ?_) fun c => ?_
      · cases e : G.funs[f]? with
        | none => exact run_no (calls_none e)
        | some F =>
          have k := hF f F e
          obtain ⟨p, b⟩ := F
          cases b with
          | code c =>
            obtain ⟨lm, d, h1, h2⟩ := k
            rw [calls_code e]
            exact run_code hS h1 (h2 n hS) g
          | heard names =>
            rw [calls_heard e]
            exact k n hA X w W L g
      · cases e : G.cls[c]? with
        | none =>
          refine run_no fun as => ?_
          unfold makeD
          rw [e]
        | some C =>
          obtain ⟨F, kk, h1, h2⟩ := S.ini c C e
          have k := hF C.init F h1
          obtain ⟨p, b⟩ := F
          have h2 : b = .code kk := h2
          subst h2
          obtain ⟨lm, d, h3, h4⟩ := k
          have eq : makeD G (calls G (n + 1)).1 c = fun as => bnd (alloc (.ins c [])) fun x => bnd (runCode G (calls G n).1 (calls G n).2 kk (x :: as)) fun r => match r with
            | .non => ret x
            | _ => no := by
            funext as
            unfold makeD
            simp only [e, calls_code h1] <;> rfl
          rw [eq]
          have M := (S.gcl c C e).2.2
          rw [← g.view.fa, ← g.view.ca, ← g.K] at M
          exact run_mk hS h3 (h4 n hS) g M
theorem all_ok (S : St0 G B) (hF : ∀ f F, G.funs[f]? = some F → FunOk G B f F) (n : Nat) : HS G B n := all_upto S hF n n (Nat.le_refl n)
end
end MI

set_option Elab.async false
set_option linter.all false
set_option maxRecDepth 100000
set_option maxHeartbeats 16000000
/-! MINI, part 29: super() of an exception being made. -/
namespace MI
open PySem PySem.Spec PyProof.Rows L2
section
variable {prog : Program} {wd : World} {A : Around} {E : Value → Shared → Prop} {K : PySem.W.Frag} {mg mb : Str → Option Value}
/-- what super() leans on in a heap -/
structure Sup (prog : Program) (K : PySem.W.Frag) (h : Heap) : Prop where
  kin : K.In h
  glob : ∃ mg, h.Ns mainGlobals mg ∧ mg "super" = none
  blt : ∃ mb, h.Ns builtinsNs mb ∧ mb "super" = some (.type "super")
  top : (prog.main.scope.names.lookup ("super" : Str)).isSome = false
  nolimit : h.NoLimit
theorem Sup.keeps {h h' : Heap} (S : Sup prog K h) (k : ∀ b o, h.get? b = some o → h'.get? b = some o) : Sup prog K h' where
  kin := S.kin.keeps k
  glob := by
    obtain ⟨mg, a, b⟩ := S.glob
    exact ⟨mg, a.keeps k, b⟩
  blt := by
    obtain ⟨mg, a, b⟩ := S.blt
    exact ⟨mg, a.keeps k, b⟩
  top := S.top
  nolimit := S.nolimit.keeps k
/-- a method that says super() -/
structure SFn (prog : Program) (K : PySem.W.Frag) (f cda cc D : Addr) (scope : Scope) (fd : FuncData) (slf : Str) : Prop where
  lk : ∃ oc od osl, K.lookup f = some ⟨oc, od, .func fd, osl⟩
  hd : ∃ ar : Arg, (fd.params.posonlyargs ++ fd.params.args).head? = some ar ∧ ar.arg = slf
  code : ∃ ccl cdd vs ccs file tf, K.lookup cda = some ⟨ccl, cdd, .fields vs, ccs⟩ ∧ vs[2]? = some (.str file tf) ∧ ((prog.main.file : Str) == file) = true
  cell : ∃ cl cld csl, K.lookup cc = some ⟨cl, cld, .cell (some (.ref D)), csl⟩
  own : ∃ cd, PySem.W.clsIn K D = some cd
  ks : scope.names.lookup ("super" : Str) = some .globalImplicit
  kc : scope.names.lookup ("__class__" : Str) = some .free
  ka : scope.names.lookup slf = some .local
  kf : scope.kind = .function
theorem sup_node {body : List Stmt} {q : Str} {scope : Scope} {p0 p1 : Pos} {attr slf : Str} {whole : Sem Value} {fd : FuncData} {f cda cc D C x L : Addr} {ox : Obj} {m : Str → Option Value} {s : Shared} {Q : Value → Shared → Prop} (S : Sup prog K s.heap) (Z : SFn prog K f cda cc D scope fd slf)
    (hn : s.heap.Ns L m) (hv : m slf = some (.ref x)) (hx : s.heap.get? x = some ox) (hc : ox.cls = .ref C) (hnc : ∀ c, ox.data ≠ .cls c) (hsub : PySem.W.mroIn K C (.ref D) = some true) (hat : (attr == ("__class__" : Str)) = false)
    (h : ∀ h', h'.get? s.heap.objs.size = some (PySem.W.ks_superObj D x C) → (∀ b o, s.heap.get? b = some o → h'.get? b = some o) → Q (.ref s.heap.objs.size) { s with heap := h' }) :
    PySem.wpAt (model prog wd) A (.func body (PySem.W.ksEnv q scope L f (.ref cda) cc)) (attributeBase (.Call (.Name "super" p0) [] [] p1) attr (PySem.W.ksEnv q scope L f (.ref cda) cc) whole) Q E s := by
  obtain ⟨hh, g, d, t, os⟩ := s
  have kin := S.kin
  obtain ⟨oc, od, osl, hf⟩ := Z.lk
  obtain ⟨ar, hp, rfl⟩ := Z.hd
  obtain ⟨ccl, cdd, vs, ccs, file, tf, hcode, hvs, hfile⟩ := Z.code
  obtain ⟨cl, cld, csl, hcell⟩ := Z.cell
  obtain ⟨cdD, hD⟩ := Z.own
  obtain ⟨gm, hg, hgs⟩ := S.glob
  obtain ⟨bm, hb, hbs⟩ := S.blt
  obtain ⟨oD, hD1, hD2⟩ : ∃ oD, hh.get? D = some oD ∧ oD.data = .cls cdD := by
    unfold PySem.W.clsIn at hD
    split at hD
    · rename_i c d cd' sl ho
      cases hD
      exact ⟨_, kin _ _ ho, rfl⟩
    · cases hD
  refine PySem.ks_wpAt_super_base (env := PySem.W.ksEnv q scope L f (.ref cda) cc) Z.ks Z.kc hat rfl (kin _ _ hf) rfl hp rfl (kin _ _ hcode) rfl hvs hfile S.top ?_
  refine PySem.W.ks_loadName_global Z.kf Z.ks (PySem.Calls.loadGlobal_builtin (env := PySem.W.ksEnv q scope L f (.ref cda) cc) hg hgs hb hbs ⟨rfl, ?_⟩)
  refine wpAny_loadName_free Z.kf Z.kc rfl ⟨_, kin _ _ hcell, rfl⟩ ?_
  refine wpAny_loadName_local Z.kf Z.ka hn hv ?_
  refine ks_wpAny_isType_cls hD1 hD2 ⟨rfl, ?_⟩
  exact ks_wpAny_call_super hD1 hD2 hx hc hnc (PySem.W.looks_mroIn kin hsub) fun h' e k => h h' e k
end
end MI

set_option Elab.async false
set_option linter.all false
set_option maxRecDepth 100000
set_option maxHeartbeats 16000000
/-! MINI, part 30: an exception's own __init__: super().__init__(what), self.what = what, self.word = word. -/
namespace MI
open PySem PySem.Spec PyProof.Rows L2
section
variable {prog : Program} {wd : World} {A : Around} {E : Value → Shared → Prop} {K : PySem.W.Frag}
abbrev Kept (h h' : Heap) (e : Addr) : Prop := ∀ b o, b ≠ e → h.get? b = some o → h'.get? b = some o
/-- ValueError.__init__, bound -/
theorem mw_call {h : Heap} {g : Array GenState} {d : Drawn} {t : Nat} {os : OsState} {u e C t0 : Addr} {rest : List Value} {Q : Value → Shared → Prop} (X : K.In h) (T : OexC K C) (hu : h.get? u = some (PySem.W.kxs_mw "ValueError.__init__" e)) (he : h.get? e = some (PySem.W.excObj C t0 none .none)) (hz : rest.length ≤ sizeLine)
    (hq : ∀ h' t1, Kept h h' e → h'.get? e = some (PySem.W.excObj C t1 none .none) → Q .none ⟨h', g, d, t, os⟩) : wpAny (model prog wd) A (call (.ref u) rest) Q E ⟨h, g, d, t, os⟩ := by
  obtain ⟨nm, q, N, bs, bm, sn, sub, ab, col, dd, k0, k1, k2, k3, k5, hC, hbm⟩ := T.cls
  have hC := X _ _ hC
  have FB := F.excBase_ValueError
  refine wpAny_call (codeAny_of_tree ?_)
  show wpAny _ A.in1 (callAny (.ref u) ⟨rest, []⟩) _ _ _
  simp only [callAny]
  refine wpAny_bind (wpAny_load hu ?_)
  have e1 : (Value.type "method-wrapper" == Value.type "method" || Value.type "method-wrapper" == Value.type "builtin_function_or_method" || Value.type "method-wrapper" == Value.type "method-wrapper") = true := by decide
  simp only [PySem.W.kxs_mw, e1, if_true]
  refine PySem.W.KFB.if_so (by decide) ?_
  refine wpAny_bind (PySem.W.check_bound_init FB.toExcCallFacts hC he rfl ?_)
  refine wpAny_bind (wpAny_pure (wpAny_pure ?_))
  refine ⟨plainId_quiet FB.init.plain _, codeAny_builtin FB.initEntry ?_⟩
  refine PySem.W.exc_init_tree (cls := .ref C) (t0 := t0) (dv := none) (c2 := .none) (c3 := .none) (b4 := .bool false) he hz fun h' k e' _ => ?_
  exact hq h' _ k e'
/-- the names of such a method's frame -/
def nm3 (e : Addr) (u w : Value) : List (Str × Value) := [("self", .ref e), ("what", u), ("word", w)]
/-- a method's call, its receiver read as it is -/
theorem meth_tree0 {o : Expr} {m : Str} {ap p : Pos} {es : List Expr} {env : Env} (h2 : (ap.endLine == p.line) = true) (h3 : ∀ y ∈ es, PySem.W.isStarred y = false) (h4 : es.length < 29) :
    eval (.Call (.Attribute o m ap) es [] p) env = (do
      let ov ← attributeBase o m env (eval o env)
      standAt ap.atName
      let (f, first) ← holding [ov] (getMethod ov m (do return (← importBound o env).getD true))
      callWith p f first (backTo p (starEach es env)) []) := by
  have hf : methodCallForm (es.length + ([] : List Keyword).length) (backTo p (starEach es env)) (backToKw p (keywordEach [] env)) = true := few_ok h3 h4
  show (do let ov ← attributeBase o m env (eval o env); standAt ap.atName; methodCall o m ap p env ov (es.length + ([] : List Keyword).length) (backTo p (starEach es env)) (backToKw p (keywordEach [] env))) = _
  unfold methodCall methodCallPos calleeOf
  rw [hf]
  simp only [h2, if_true, Bool.not_true, Bool.false_or, pure_bind]
  rfl
/-- Refused.__init__(e, u, w) -/
theorem ref_run {s : Shared} {R : Result → Shared → Prop} {fR cda cc DR C e t0 : Addr} {u w : Value} {name qual : Str} {params : Arguments} {scope : Scope} {dV kV doc pm ct : Value} {an : Option Addr} {p0 p1 p2 p3 p4 p5 p6 p7 p8 p9 p10 p11 p12 p13 : Pos} (S : Sup prog K s.heap)
    (Z : SFn prog K fR cda cc DR scope (PySem.W.ksFn name qual params [.Expr (.Call (.Attribute (.Call (.Name "super" p0) [] [] p1) "__init__" p2) [.Name "what" p3] [] p4) p5, .Assign [.Attribute (.Name "self" p6) "what" p7] (.Name "what" p8) p9, .Assign [.Attribute (.Name "self" p10) "word" p11] (.Name "word" p12) p13] scope dV kV doc pm an (.ref cda) ct cc) "self")
    (T : OexC K C) (cd : PySem.W.codeIn K (.ref cda) qual = true) (hco : scope.isCoroutine = false) (hgen : scope.isGenerator = false) (hcell : ∀ x ∈ scope.names, x.2 ≠ .cell)
    (hb : BindsTo s (PySem.W.ksFn name qual params [.Expr (.Call (.Attribute (.Call (.Name "super" p0) [] [] p1) "__init__" p2) [.Name "what" p3] [] p4) p5, .Assign [.Attribute (.Name "self" p6) "what" p7] (.Name "what" p8) p9, .Assign [.Attribute (.Name "self" p10) "word" p11] (.Name "word" p12) p13] scope dV kV doc pm an (.ref cda) ct cc) ⟨[.ref e, u, w], []⟩ (nm3 e u w))
    (h1 : scope.names.lookup ("self" : Str) = some .local) (h2 : scope.names.lookup ("what" : Str) = some .local) (h3 : scope.names.lookup ("word" : Str) = some .local) (hsub : PySem.W.mroIn K C (.ref DR) = some true) (thp : PySem.W.nsIn K cStatics "thirdparty.any" = some none)
    (hm : PySem.W.ks_superIn K C DR "__init__" = some (some (.builtin "ValueError.__init__"))) (hB : PySem.W.subIn K (.ref C) (.type "ValueError") = some true) (n1 : PySem.W.findIn K (.ref C) "what" = some none) (n2 : PySem.W.findIn K (.ref C) "word" = some none) (hroom : A.depth < recursionLimit) (hl : (p2.endLine == p4.line) = true) (hKe : K.lookup e = none)
    (he : s.heap.get? e = some (PySem.W.excObj C t0 none .none))
    (hq : ∀ h' tk' d t1, Kept s.heap h' e → s.heap.objs.size ≤ d → h'.get? e = some (PySem.W.excObj C t1 (some d) .none) → h'.Ns1 d (fun y => if y = "word" then some w else if y = "what" then some u else none) → R (.ok (.ret .none)) { s with heap := h', toks := tk' }) :
    codeAny (model prog wd) A (.call (.ref fR) ⟨[.ref e, u, w], []⟩) R s := by
  obtain ⟨oc, od, osl, lk⟩ := Z.lk
  have hnt : interactive (PySem.W.ksEnv qual scope s.heap.objs.size fR (.ref cda) cc) = false := by simp [interactive, Z.kf]
  refine ks_codeAny_call_defAt hroom (S.kin _ _ lk) rfl S.nolimit (PySem.W.codeRec_of S.kin cd) rfl hb hcell (fun x hx => ?_) (fun h₀ hns hk => ?_) hco hgen Z.kf
  · rcases List.mem_cons.mp hx with rfl | hx
    · exact h1
    · rcases List.mem_cons.mp hx with rfl | hx
      · exact h2
      · rcases List.mem_cons.mp hx with rfl | hx
        · exact h3
        · cases hx
  show PySem.wpAt _ (A.deeper (PySem.W.ksEnv qual scope s.heap.objs.size fR (.ref cda) cc)) (.func _ (PySem.W.ksEnv qual scope s.heap.objs.size fR (.ref cda) cc)) (execs _ (PySem.W.ksEnv qual scope s.heap.objs.size fR (.ref cda) cc)) _ _ _
  have he0 := hk _ _ he
  refine ks_wpAt_execs_cons (ks_wpAt_Expr_any (ks_wpAt_MethodCall (pl := (do return (← importBound (.Call (.Name "super" p0) [] [] p1) (PySem.W.ksEnv qual scope s.heap.objs.size fR (.ref cda) cc)).getD true)) (sup_node (L := s.heap.objs.size) (m := fun x => (nm3 e u w).reverse.lookup x) (S.keeps hk) Z hns (by rfl) he0 rfl (fun c z => by cases z) hsub (by decide) fun hA hso kA => ?_) ?_) hnt)
  rotate_left
  · exact meth_tree0 hl (fun y hy => by
      rcases List.mem_cons.mp hy with rfl | hy
      · rfl
      · cases hy) (by show 1 < 29; decide)
  have XA := (S.keeps hk).kin.keeps kA
  have heA := kA _ _ he0
  have IA : PySem.W.InstAt hA e (PySem.W.excObj C t0 none .none) C none := ⟨heA, rfl, rfl, trivial⟩
  cases hcl : PySem.W.clsIn K C with
  | none =>
    unfold PySem.W.ks_superIn at hm
    rw [hcl] at hm
    cases hm
  | some cdC =>
    unfold PySem.W.ks_superIn at hm
    rw [hcl] at hm
    refine PySem.W.kxs_getMethod PySem.W.kxs_ValueError hso (PySem.W.looks_opaque XA thp) (l₀ := cdC.mro) (fun A Q E s k q => wpAny_bind ((PySem.W.looks_clsIn XA hcl) A _ E s k (wpAny_pure q))) rfl XA hm (IA.type.andThen (PySem.W.looks_subIn XA hB)) (PySem.W.ks_ne XA IA hcl) (by decide) ?_
    have nsA := hns.keeps kA
    have kB : ∀ b o, hA.get? b = some o → (hA.push (PySem.W.kxs_mw "ValueError.__init__" e)).get? b = some o := fun b o z => Heap.get?_push_of_some _ z
    have nsB := nsA.keeps kB
    refine PySem.W.kxs_callWith (i := "ValueError.__init__") (x := e) rfl (PySem.Calls.evalArgs_plain (Calls.spliced_cons (wpAny_Name (wpAny_loadName_local Z.kf h2 nsB (v := u) (by rfl) (Calls.spliced_nil ⟨Heap.get?_push_size _ rfl, ?_⟩)) (by decide))))
    refine mw_call (XA.keeps kB) T (Heap.get?_push_size _ rfl) (kB _ _ heA) (by show 1 ≤ sizeLine; decide) fun hC t1 kC eC => ?_
    obtain ⟨cn, cq, cN, cbs, bm, csn, csub, cab, ccol, cdd, k0, k1, k2, k3, k5, hCK, hbm⟩ := T.cls
    have ecd : cdC = { name := cn, bases := cbs, mro := .ref C :: bm, ns := cN, qualname := cq, hasDict := true, slotNames := csn, subclasses := csub, abstract := cab, collection := ccol, hasDel := false } := by
      unfold PySem.W.clsIn at hcl
      rw [hCK] at hcl
      exact (Option.some.inj hcl).symm
    have hmr : PySem.HandSPX.refsVE cdC.mro = true := by rw [ecd]; exact hbm
    have hhd : cdC.hasDict = true := by rw [ecd]
    have neL : s.heap.objs.size ≠ e := Nat.ne_of_gt (Heap.lt_size he)
    have XC : K.In hC := fun b o z => kC b o (fun q => by rw [q, hKe] at z; cases z) (XA.keeps kB b o z)
    have nsC : hC.Ns s.heap.objs.size (fun x => (nm3 e u w).reverse.lookup x) := by
      obtain ⟨oL, es, ep, hL, r⟩ := nsB
      exact ⟨oL, es, ep, kC _ _ neL hL, r⟩
    have old : Kept s.heap hC e := fun b o hb z => kC b o hb (kB b o (kA b o (hk b o z)))
    refine PySem.wpAt_of_wpAny (wpAny_execs_cons (plainObj_wpAny_Assign_Attribute (wpAny_Name (wpAny_loadName_local Z.kf h2 nsC (v := u) (by rfl) (wpAny_Name (wpAny_loadName_local Z.kf h1 nsC (v := .ref e) (by rfl) ?_) (by decide))) (by decide)) (by rfl)))
    refine PySem.W.set_plain XC (ox := PySem.W.excObj C t1 none .none) (od := none) ⟨eC, rfl, rfl, trivial⟩ T.sa ?_
    refine PySem.HandSPX.exc_osa XC eC hcl hmr hhd n1 fun hD tk' dx kD dn dne eD nD => ?_
    have XD : K.In hD := fun b o z => kD b o (fun q => by rw [q, hKe] at z; cases z) (XC b o z)
    have nsD : hD.Ns s.heap.objs.size (fun x => (nm3 e u w).reverse.lookup x) := by
      obtain ⟨oL, es, ep, hL, r⟩ := nsC
      exact ⟨oL, es, ep, kD _ _ neL hL, r⟩
    have szC : s.heap.objs.size < hC.objs.size := by
      obtain ⟨oL, es, ep, hL, r⟩ := nsC
      exact Heap.lt_size hL
    obtain ⟨oD, _, _, hoD, _, _⟩ := id nD
    refine wpAny_execs_cons (plainObj_wpAny_Assign_Attribute (wpAny_Name (wpAny_loadName_local Z.kf h3 nsD (v := w) (by rfl) (wpAny_Name (wpAny_loadName_local Z.kf h1 nsD (v := .ref e) (by rfl) ?_) (by decide))) (by decide)) (by rfl))
    refine PySem.W.set_plain XD (ox := PySem.W.excObj C t1 (some dx) .none) (od := some oD) ⟨eD, rfl, rfl, hoD⟩ T.sa ?_
    refine PySem.OEX.osa_old XD eD nD (nl := ["what"]) (fun y hy => ?_) (by show 1 ≤ 1000; decide) hcl hmr hhd n2 fun hF tk2 kF nF => ?_
    · by_cases q : y = "what"
      · rw [q]
        exact List.mem_singleton.mpr rfl
      · exact absurd (if_neg q) hy
    · refine wpAny_execs_nil ?_
      refine hq hF _ dx t1 (fun b o hb z => ?_) (Nat.le_trans (Nat.le_of_lt szC) dn) (kF _ _ dne.symm eD) nF
      have zC := old b o hb z
      exact kF b o (Nat.ne_of_lt (Nat.lt_of_lt_of_le (Heap.lt_size zC) dn)) (kD b o hb zC)
end
end MI

set_option Elab.async false
set_option linter.all false
set_option maxRecDepth 100000
set_option maxHeartbeats 16000000
/-! MINI, part 31: an exception made. -/
namespace MI
open PySem PySem.Spec PyProof.Rows L2
section
variable {prog : Program} {wd : World} {A : Around} {E : Value → Shared → Prop} {K : PySem.W.Frag}
/-- Refused, as it stands -/
structure RefD where
  f : Addr
  cda : Addr
  cc : Addr
  D : Addr
  name : Str
  qual : Str
  params : Arguments
  scope : Scope
  dV : Value
  kV : Value
  doc : Value
  pm : Value
  ct : Value
  an : Option Addr
  p0 : Pos
  p1 : Pos
  p2 : Pos
  p3 : Pos
  p4 : Pos
  p5 : Pos
  p6 : Pos
  p7 : Pos
  p8 : Pos
  p9 : Pos
  p10 : Pos
  p11 : Pos
  p12 : Pos
  p13 : Pos
abbrev RefD.body (r : RefD) : List Stmt := [.Expr (.Call (.Attribute (.Call (.Name "super" r.p0) [] [] r.p1) "__init__" r.p2) [.Name "what" r.p3] [] r.p4) r.p5, .Assign [.Attribute (.Name "self" r.p6) "what" r.p7] (.Name "what" r.p8) r.p9, .Assign [.Attribute (.Name "self" r.p10) "word" r.p11] (.Name "word" r.p12) r.p13]
abbrev RefD.fd (r : RefD) : FuncData := PySem.W.ksFn r.name r.qual r.params r.body r.scope r.dV r.kV r.doc r.pm r.an (.ref r.cda) r.ct r.cc
structure RefOk (prog : Program) (K : PySem.W.Frag) (r : RefD) : Prop where
  z : SFn prog K r.f r.cda r.cc r.D r.scope r.fd "self"
  cd : PySem.W.codeIn K (.ref r.cda) r.qual = true
  co : r.scope.isCoroutine = false
  gen : r.scope.isGenerator = false
  cell : ∀ x ∈ r.scope.names, x.2 ≠ .cell
  bind : ∀ (s : Shared) e u w, K.In s.heap → BindsTo s r.fd ⟨[.ref e, u, w], []⟩ (nm3 e u w)
  h1 : r.scope.names.lookup ("self" : Str) = some .local
  h2 : r.scope.names.lookup ("what" : Str) = some .local
  h3 : r.scope.names.lookup ("word" : Str) = some .local
  thp : PySem.W.nsIn K cStatics "thirdparty.any" = some none
  line : (r.p2.endLine == r.p4.line) = true
  fn : PySem.W.fnIn K r.f = true
  ty : PySem.W.typeIn K (.ref r.f) = some (.type "function")
/-- a class of Refused, as it stands -/
structure XcD where
  C : Addr
  f : Addr
  cda : Addr
  cc : Addr
  nm : Str
  name : Str
  qual : Str
  params : Arguments
  scope : Scope
  dV : Value
  kV : Value
  doc : Value
  pm : Value
  ct : Value
  an : Option Addr
  j : Nat
  p0 : Pos
  p1 : Pos
  p2 : Pos
  p3 : Pos
  p4 : Pos
  p5 : Pos
  p6 : Pos
abbrev XcD.body (x : XcD) : List Stmt := [.Expr (.Call (.Attribute (.Call (.Name "super" x.p0) [] [] x.p1) "__init__" x.p2) [.Name "what" x.p3, .Constant (.str x.nm) x.j x.p4] [] x.p5) x.p6]
abbrev XcD.fd (x : XcD) : FuncData := PySem.W.ksFn x.name x.qual x.params x.body x.scope x.dV x.kV x.doc x.pm x.an (.ref x.cda) x.ct x.cc
def nm2 (e : Addr) (u : Value) : List (Str × Value) := [("self", .ref e), ("what", u)]
structure XcOk (prog : Program) (K : PySem.W.Frag) (r : RefD) (x : XcD) : Prop where
  z : SFn prog K x.f x.cda x.cc x.C x.scope x.fd "self"
  cd : PySem.W.codeIn K (.ref x.cda) x.qual = true
  co : x.scope.isCoroutine = false
  gen : x.scope.isGenerator = false
  cell : ∀ y ∈ x.scope.names, y.2 ≠ .cell
  bind : ∀ e u, bindArgs x.fd ⟨[.ref e, u], []⟩ = pure (nm2 e u)
  h1 : x.scope.names.lookup ("self" : Str) = some .local
  h2 : x.scope.names.lookup ("what" : Str) = some .local
  line : (x.p2.endLine == x.p5.line) = true
  t : OexC K x.C
  subR : PySem.W.mroIn K x.C (.ref r.D) = some true
  subX : PySem.W.mroIn K x.C (.ref x.C) = some true
  supR : PySem.W.ks_superIn K x.C r.D "__init__" = some (some (.builtin "ValueError.__init__"))
  supX : PySem.W.ks_superIn K x.C x.C "__init__" = some (some (.ref r.f))
  subV : PySem.W.subIn K (.ref x.C) (.type "ValueError") = some true
  n1 : PySem.W.findIn K (.ref x.C) "what" = some none
  n2 : PySem.W.findIn K (.ref x.C) "word" = some none
  ini : PySem.W.findIn K (.ref x.C) "__init__" = some (some (.ref x.f))
  ty : PySem.W.typeIn K (.ref x.f) = some (.type "function")
/-- X.__init__(e, u) -/
theorem xc_run {s : Shared} {R : Result → Shared → Prop} {r : RefD} {x : XcD} {e t0 : Addr} {u : Value} (S : Sup prog K s.heap) (RO : RefOk prog K r) (XO : XcOk prog K r x) (hroom : A.depth + 1 < recursionLimit) (hKe : K.lookup e = none) (he : s.heap.get? e = some (PySem.W.excObj x.C t0 none .none))
    (hq : ∀ h' tk' d t1 tk, Kept s.heap h' e → s.heap.objs.size ≤ d → h'.get? e = some (PySem.W.excObj x.C t1 (some d) .none) → h'.Ns1 d (fun y => if y = "word" then some (.str x.nm tk) else if y = "what" then some u else none) → R (.ok (.ret .none)) { s with heap := h', toks := tk' }) :
    codeAny (model prog wd) A (.call (.ref x.f) ⟨[.ref e, u], []⟩) R s := by
  obtain ⟨oc, od, osl, lk⟩ := XO.z.lk
  have hnt : interactive (PySem.W.ksEnv x.qual x.scope s.heap.objs.size x.f (.ref x.cda) x.cc) = false := by simp [interactive, XO.z.kf]
  refine ks_codeAny_call_defAt (by omega) (S.kin _ _ lk) rfl S.nolimit (PySem.W.codeRec_of S.kin XO.cd) rfl (.of_eq (XO.bind e u)) XO.cell (fun y hy => ?_) (fun h₀ hns hk => ?_) XO.co XO.gen XO.z.kf
  · rcases List.mem_cons.mp hy with rfl | hy
    · exact XO.h1
    · rcases List.mem_cons.mp hy with rfl | hy
      · exact XO.h2
      · cases hy
  show PySem.wpAt _ (A.deeper (PySem.W.ksEnv x.qual x.scope s.heap.objs.size x.f (.ref x.cda) x.cc)) (.func _ (PySem.W.ksEnv x.qual x.scope s.heap.objs.size x.f (.ref x.cda) x.cc)) (execs _ (PySem.W.ksEnv x.qual x.scope s.heap.objs.size x.f (.ref x.cda) x.cc)) _ _ _
  have he0 := hk _ _ he
  refine ks_wpAt_execs_cons (ks_wpAt_Expr_any (ks_wpAt_MethodCall (pl := (do return (← importBound (.Call (.Name "super" x.p0) [] [] x.p1) (PySem.W.ksEnv x.qual x.scope s.heap.objs.size x.f (.ref x.cda) x.cc)).getD true)) (sup_node (L := s.heap.objs.size) (m := fun y => (nm2 e u).reverse.lookup y) (S.keeps hk) XO.z hns (by rfl) he0 rfl (fun c z => by cases z) XO.subX (by decide) fun hA hso kA => ?_) ?_) hnt)
  rotate_left
  · exact meth_tree0 XO.line (fun y hy => by
      rcases List.mem_cons.mp hy with rfl | hy
      · rfl
      · rcases List.mem_cons.mp hy with rfl | hy
        · rfl
        · cases hy) (by show 2 < 29; decide)
  have SA := (S.keeps hk).keeps kA
  have XA := SA.kin
  have heA := kA _ _ he0
  have IA : PySem.W.InstAt hA e (PySem.W.excObj x.C t0 none .none) x.C none := ⟨heA, rfl, rfl, trivial⟩
  have hm := XO.supX
  cases hcl : PySem.W.clsIn K x.C with
  | none =>
    unfold PySem.W.ks_superIn at hm
    rw [hcl] at hm
    cases hm
  | some cdC =>
    unfold PySem.W.ks_superIn at hm
    rw [hcl] at hm
    obtain ⟨ocR, odR, oslR, lkR⟩ := RO.z.lk
    have tyR : ocR = .type "function" := by
      have z : (K.lookup r.f).map (·.cls) = some (.type "function") := RO.ty
      rw [lkR] at z
      exact Option.some.inj z
    refine ks_wpAny_getMethod_super hso (PySem.W.looks_opaque XA RO.thp) (l₀ := cdC.mro) (fun A Q E s k q => wpAny_bind ((PySem.W.looks_clsIn XA hcl) A _ E s k (wpAny_pure q))) rfl XA hm (XA _ _ lkR) tyR (PySem.W.ks_ne XA IA hcl) (by decide) ?_
    have nsA := hns.keeps kA
    have kB : ∀ b o, hA.get? b = some o → (hA.push (PySem.W.methodObj (.ref r.f) (.ref e))).get? b = some o := fun b o z => Heap.get?_push_of_some _ z
    have nsB := nsA.keeps kB
    have SB := SA.keeps kB
    have qB : (hA.push (PySem.W.methodObj (.ref r.f) (.ref e))).get? hA.objs.size = some (PySem.W.methodObj (.ref r.f) (.ref e)) := Heap.get?_push_size _ rfl
    refine PySem.W.callWith_of (P := PySem.W.MethP K hA.objs.size r.f (.ref e)) rfl (PySem.W.keeps_M RO.fn) (PySem.Calls.evalArgs_plain (Calls.spliced_cons (wpAny_Name (wpAny_loadName_local XO.z.kf XO.h2 nsB (v := u) (by rfl) (Calls.spliced_cons (Calls.Constant_str (k := x.j) (pos := x.p4) (Calls.spliced_nil ⟨⟨qB, SB.kin⟩, ?_⟩)))) (by decide))))
    refine wpAny_call (ks_codeAny_call_bound qB ?_)
    refine ref_run SB RO.z XO.t RO.cd RO.co RO.gen RO.cell (RO.bind _ e u _ SB.kin) RO.h1 RO.h2 RO.h3 XO.subR RO.thp XO.supR XO.subV XO.n1 XO.n2 hroom RO.line hKe (kB _ _ heA) fun h' tk' d t1 kR dR eR nR => ?_
    show PySem.wpAt _ _ _ (execs [] _) _ _ _
    refine PySem.wpAt_of_wpAny (wpAny_execs_nil ?_)
    refine hq h' _ d t1 _ (fun b o hb z => kR b o hb (kB b o (kA b o (hk b o z)))) (Nat.le_trans ?_ dR) eR nR
    have zs : s.heap.objs.size < (hA.push (PySem.W.methodObj (.ref r.f) (.ref e))).objs.size := by
      obtain ⟨oL, es, ep, hL, _⟩ := nsB
      exact Heap.lt_size hL
    exact Nat.le_of_lt zs
end
end MI

set_option Elab.async false
set_option linter.all false
set_option maxRecDepth 100000
set_option maxHeartbeats 16000000
/-! MINI, part 32: X(v), as raise has it. -/
namespace MI
open PySem PySem.Spec PyProof.Rows L2
theorem sup_of {X : Cx} {pins : List (Addr × Obj)} {σ : L2.St} {H : Hp} {s : Shared} (I : Inv X pins σ H s) (hs : X.mg "super" = none) (ht : (X.prog.main.scope.names.lookup ("super" : Str)).isSome = false) : Sup X.prog X.K s.heap where
  kin := I.kIn
  glob := ⟨X.mg, I.mod.glob.keeps I.bk, hs⟩
  blt := by
    obtain ⟨mb, h1, h2⟩ := I.mod.blt
    exact ⟨mb, h1.keeps I.bk, (h2 _ (by decide +kernel)).trans (by decide +kernel)⟩
  top := ht
  nolimit := I.nolimit
theorem pmk_xc {X : Cx} {w : Vw} {W : WX} {r : RefD} {x : XcD} {k : Nat} {z : Str} {p pos : Pos} {v : Expr} {m : Fr → M D} (RO : RefOk X.prog X.K r) (XO : XcOk X.prog X.K r x) (hs : X.mg "super" = none) (ht : (X.prog.main.scope.names.lookup ("super" : Str)).isSome = false)
    (hr : Room 2 X.A) (hg : Gl X z) (hm : X.mg z = some (.ref x.C)) (hdb : (z == ("__debug__" : Str)) = false) (hst : PySem.W.isStarred v = false) (ha : PE X v (tM X w W (RD w) m)) (e1 : w.xa k = x.C) (e2 : w.xn k = x.nm) : L2N.PMk X (.Call (.Name z p) [v] [] pos) (tMk X w W k m) := by
  intro pins s σ H Q I h
  have T := XO.t
  obtain ⟨nm, q, N, bs, bm, sn, sub, ab, col, dd, k0, k1, k2, k3, k5, hC, hbm⟩ := T.cls
  obtain ⟨st1, st2⟩ := star_plain (pos := pos) (env := X.env) (e := v) (es := []) fun y hy => by
    rcases List.mem_cons.mp hy with rfl | hy
    · exact hst
    · cases hy
  refine wpAny_Call_Name_kw (ld_glob I hg hm ?_ hdb)
  refine PySem.W.callWith_K (h₀ := X.base) I.ok.mod.kin T.kC (thn ((pa_cons ha pa_nil st1).run pos pins s σ H (fun vs H1 => ∃ vv, vs = [vv] ∧ ∀ q, H1 q = none → Q (.ref (w.xa k)) (some q) (upd H1 q (.xd [("what", vv), ("word", .str (w.xn k))]))) I ?_) fun us s1 ⟨vs, H1, I1, r1, vv, ev, hq⟩ => ⟨I1.kIn, ?_⟩) st1 st2
  · obtain ⟨fr, c, e, hf, hs', hp⟩ := h
    exact ⟨fr, c, e, hf, hs', Post.imp hp fun v H' q => ⟨v, rfl, q⟩⟩
  subst ev
  cases r1 with
  | @cons _ u _ us ru rr =>
    cases rr
    show wpAny _ _ (call (.ref x.C) [u]) _ _ _
    have S1 := sup_of I1 hs ht
    have bare := I1.bare
    have exC := T.exC
    obtain ⟨hp, g, dr, tk, os⟩ := s1
    have szE : hp.objs.size ≤ hp.objs.size + 1 := Nat.le_succ _
    have nE : H1 (hp.objs.size + 1) = none := I1.hok.fresh szE
    have hKe : X.K.lookup (hp.objs.size + 1) = none := by
      cases q : X.K.lookup (hp.objs.size + 1) with
      | none => rfl
      | some o => exact absurd (Heap.lt_size (I1.kIn _ _ q)) (by show ¬ (hp.objs.size + 1 < hp.objs.size); omega)
    have kk : ∀ b o, hp.get? b = some o → ((hp.push (PySem.W.kdv_tup [u])).push (PySem.HandSPX.excO x.C hp.objs.size)).get? b = some o := fun b o e => Heap.get?_push_of_some _ (Heap.get?_push_of_some _ e)
    have hget : ((hp.push (PySem.W.kdv_tup [u])).push (PySem.HandSPX.excO x.C hp.objs.size)).get? (hp.objs.size + 1) = some (PySem.HandSPX.excO x.C hp.objs.size) := by heap_get
    have sz2 : ((hp.push (PySem.W.kdv_tup [u])).push (PySem.HandSPX.excO x.C hp.objs.size)).objs.size = hp.objs.size + 2 := by rw [Heap.size_push, Heap.size_push]
    have dpt := hr.dp
    refine wpAny_call (PySem.HandSPX.call_own F.excBase_ValueError (fun Y => PySem.HandSPX.refsVE_contains Y bm hbm) (I1.kIn _ _ hC) (PySem.W.looks_findIn I1.kIn XO.ini) (fun self => PySem.W.bind_fn I1.kIn self XO.ty) (by show 1 ≤ sizeLine; decide)
      (xc_run (s := ⟨(hp.push (PySem.W.kdv_tup [u])).push (PySem.HandSPX.excO x.C hp.objs.size), g, dr, tk, os⟩) (S1.keeps kk) RO XO (by rw [make_depth]; omega) hKe hget fun h' tk' d t1 tkw kR dR eR nR => ⟨rfl, ?_⟩))
    have dR : hp.objs.size + 2 ≤ d := by rw [← sz2]; exact dR
    have neD : d ≠ hp.objs.size + 1 := Nat.ne_of_gt (Nat.lt_of_lt_of_le (Nat.lt_succ_self _) dR)
    obtain ⟨G, g1, g2⟩ := restrict h' fun b => decide (b ≠ hp.objs.size + 1)
    have g1 : ∀ b, b ≠ hp.objs.size + 1 → G.get? b = h'.get? b := fun b q => g1 b (decide_eq_true q)
    have g2 : G.get? (hp.objs.size + 1) = none := g2 _ (by simp)
    have kG : ∀ b o, hp.get? b = some o → G.get? b = some o := fun b o e => by
      have hb : b ≠ hp.objs.size + 1 := by
        have hlt : b < hp.objs.size := Heap.lt_size e
        exact Nat.ne_of_lt (Nat.lt_succ_of_lt hlt)
      rw [g1 b hb]
      exact kR b o hb (kk b o e)
    have nG : G.Ns1 d (fun y => if y = "word" then some (.str x.nm tkw) else if y = "what" then some u else none) := by
      obtain ⟨oD, es, ep, hD, r⟩ := nR
      exact ⟨oD, es, ep, (g1 d neD).trans hD, r⟩
    have I2 : Inv X pins σ (upd H1 d (.xd [("what", vv), ("word", .str (w.xn k))])) ⟨G, g, dr, tk', os⟩ := I1.laid (t' := tk') (a := d) kG (Nat.le_trans (Nat.le_add_right _ 2) dR) ⟨_, nG, fun f => by
      rw [e2]
      by_cases q1 : f = "word"
      · subst q1
        rw [if_pos rfl]
        exact ⟨tkw, rfl⟩
      · rw [if_neg q1]
        by_cases q2 : f = "what"
        · subst q2
          rw [if_pos rfl]
          exact ru
        · rw [if_neg q2]
          have b1 : (f == ("what" : Str)) = false := by simpa using q2
          have b2 : (f == ("word" : Str)) = false := by simpa using q1
          simp only [List.lookup_cons, b1, b2, List.lookup_nil]
          trivial⟩
    refine ⟨hp.objs.size + 1, _, _, ⟨G, g, dr, tk', os⟩, _, .ref x.C, some d, rfl, I2, fun b o e => ?_, g2, eR, ⟨rfl, rfl, fun vs' e => by cases e; rfl⟩, rfl, rfl, ?_, rfl, bare, raises_own T.exC T.tyC, ?_⟩
    · have hb : b ≠ hp.objs.size + 1 := fun q => by rw [q, g2] at e; cases e
      rw [← g1 b hb]
      exact e
    · rw [upd_ne (Ne.symm neD)]
      exact nE
    · rw [← e1]
      exact hq d (I1.hok.fresh (Nat.le_trans (Nat.le_add_right hp.objs.size 2) dR))
end MI

set_option Elab.async false
set_option linter.all false
set_option maxRecDepth 100000
set_option maxHeartbeats 16000000
/-! MINI, part 33: lambdas made. -/
namespace MI
open PySem PySem.Spec PyProof.Rows L2
/-- what becomes of the tracked when code objects are laid -/
structure Grows (H H1 : Hp) : Prop where
  oth : ∀ a o, H a = some o → isTbl o = false → H1 a = some o
  tbl : ∀ a ps, H a = some (.tbl ps) → ∃ more, H1 a = some (.tbl (ps ++ more))
theorem Grows.refl (H : Hp) : Grows H H := ⟨fun _ _ e _ => e, fun _ ps e => ⟨#[], by rw [Array.append_empty]; exact e⟩⟩
theorem codeO_tb {c : Addr} {q : Str} : isTbl (LamX.CodeO c q) = false := by
  unfold LamX.CodeO
  rfl
section
variable {X : Cx} {pins : List (Addr × Obj)} {σ : L2.St} {H : Hp} {s : Shared}
/-- the tables behind a new code object at c, told in the table at P -/
theorem tabs_new {T : List (Addr × Str)} {P c : Addr} {q : Str} {ps : Array Value} {pos : Pos} (hT : LamX.Tabs T H) (hP : H P = some (.tbl ps)) (ht : TriplesOk ps.toList) (hc : H c = none) (hu : ∀ p ∈ T, p.1 = P → p.2 = q) :
    Grows H (upd (upd H P (.tbl (ps ++ #[rawInt pos.line, rawInt pos.col, .ref c]))) c (LamX.CodeO c q)) ∧ LamX.Tabs T (upd (upd H P (.tbl (ps ++ #[rawInt pos.line, rawInt pos.col, .ref c]))) c (LamX.CodeO c q)) := by
  have grow : Grows H (upd (upd H P (.tbl (ps ++ #[rawInt pos.line, rawInt pos.col, .ref c]))) c (LamX.CodeO c q)) := by
    refine ⟨fun a o e t => ?_, fun a us e => ?_⟩
    · have n1 : a ≠ P := fun z => by
        rw [z, hP] at e
        cases e
        cases t
      rw [upd_ne (ne_of_none e hc), upd_ne n1]
      exact e
    · by_cases z : a = P
      · subst z
        rw [hP] at e
        cases e
        exact ⟨_, by rw [upd_ne (ne_of_none hP hc), upd_same]⟩
      · exact ⟨#[], by rw [upd_ne (ne_of_none e hc), upd_ne z, Array.append_empty]; exact e⟩
  refine ⟨grow, fun p hp => ?_⟩
  obtain ⟨us, a1, a2, a3⟩ := hT p hp
  by_cases z : p.1 = P
  · rw [z, hP] at a1
    cases a1
    rw [hu p hp z, z]
    have eL : (ps ++ #[rawInt pos.line, rawInt pos.col, .ref c]).toList = ps.toList ++ [rawInt pos.line, rawInt pos.col, .ref c] := by simp
    refine ⟨_, by rw [upd_ne (ne_of_none hP hc), upd_same], by rw [eL]; exact PySem.TriplesOk_snoc _ _ _ _ ht, fun pp cv h => ?_⟩
    rw [eL] at h
    rcases LamX.among_app _ ht h with g | g
    · obtain ⟨c0, e1, e2⟩ := a3 pp cv g
      rw [hu p hp z] at e2
      exact ⟨c0, e1, grow.oth _ _ e2 codeO_tb⟩
    · exact ⟨c, g, upd_same⟩
  · refine ⟨us, by rw [upd_ne (ne_of_none a1 hc), upd_ne z]; exact a1, a2, fun pp cv h => ?_⟩
    obtain ⟨c0, e1, e2⟩ := a3 pp cv h
    exact ⟨c0, e1, grow.oth _ _ e2 codeO_tb⟩
theorem lam_new {T : List (Addr × Str)} {c P : Addr} {params : Arguments} {body : Expr} {scope : Scope} {pos : Pos} {E : Value → Shared → Prop} {Q : Value → Shared → Prop} (I : Inv X pins σ H s) (B : LamX.TabB X.base X.mg c P) (hco : X.env.code = .ref c)
    (hm : (P, X.env.qual ++ "<lambda>") ∈ T) (hu : ∀ p ∈ T, p.1 = P → p.2 = X.env.qual ++ "<lambda>") (hT : LamX.Tabs T H) (hd : defaultsOf params X.env = ([], [])) (hfr : ∀ y ∈ scope.names, y.2 = .free → ∃ c, X.env.cells.lookup y.1 = some c)
    (h : ∀ (f c1 : Addr) (pm ctv : Value) (H1 : Hp) (s1 : Shared), Inv X pins σ H1 s1 → Grows H H1 → LamX.Tabs T H1 → s.heap.objs.size ≤ f → H1 f = none → H1 c1 = some (LamX.CodeO c1 (X.env.qual ++ "<lambda>")) →
      s1.heap.get? f = some (PySem.W.kla_obj "<lambda>" (X.env.qual ++ "<lambda>") params body scope (cloFrom X.env.cells scope.names []) pm c1 ctv) → Q (.ref f) s1) :
    wpAny (model X.prog X.w) X.A (eval (.Lambda params body scope pos) X.env) Q E s := by
  obtain ⟨us, hP, ht, _⟩ := id (hT _ hm)
  have hPs : s.heap.get? P = some { cls := .none, data := .fields us } := I.hok P _ hP
  refine PySem.W.kla_eval hd ?_
  have gl := I.mod.glob.keeps I.bk
  have cH := B.code.keeps I.bk
  have bP := B.bm.keeps I.bk
  cases hk : codeAmong pos us.toList with
  | none =>
    refine PySem.W.kla_makeFunction (mg := X.mg) (c := c) (P := P) (ps := us) (closure_ok hfr) I.ok.glob gl hco cH hPs ht hk B.gP bP fun c1 ctv h1 tk ext lo hi rec tabl => ?_
    obtain ⟨c2, oc, vs, t, rfl', o1, o2, o3⟩ := rec
    cases rfl'
    have nc : H c1 = none := I.hok.fresh lo
    have J := LamX.inv_table (q := X.env.qual ++ "<lambda>") (t' := tk) (more := #[rawInt pos.line, rawInt pos.col, .ref c1]) (h' := h1.push (PySem.W.kla_obj "<lambda>" (X.env.qual ++ "<lambda>") params body scope (cloFrom X.env.cells scope.names []) ((X.mg "__name__").getD .none) c1 ctv)) I hP
      (fun b o hb e => Heap.get?_push_of_some _ (ext b o hb e)) (Heap.get?_push_of_some _ tabl) lo ⟨oc, vs, t, Heap.get?_push_of_some _ o1, o2, o3⟩
    obtain ⟨gr, tb⟩ := tabs_new (pos := pos) hT hP ht nc hu
    have big : s.heap.objs.size ≤ h1.objs.size := Nat.le_trans lo (Nat.le_of_lt hi)
    refine h h1.objs.size c1 _ ctv _ _ J gr tb big ?_ upd_same (Heap.get?_push_size _ rfl)
    have ne1 : h1.objs.size ≠ c1 := Nat.ne_of_gt hi
    have ne2 : h1.objs.size ≠ P := Nat.ne_of_gt (Nat.lt_of_lt_of_le (Heap.lt_size hPs) big)
    rw [upd_ne ne1, upd_ne ne2]
    exact I.hok.fresh big
  | some cv =>
    obtain ⟨us', hP', _, hin⟩ := hT _ hm
    rw [hP] at hP'
    cases hP'
    obtain ⟨c1, rfl, hc1⟩ := hin pos cv hk
    refine PySem.W.kla_makeFunctionHit (mg := X.mg) (c := c) (P := P) (ps := us) (closure_ok hfr) I.ok.glob gl hco cH hPs ht hk bP fun ctv h1 tk ext big => ?_
    exact h h1.objs.size c1 _ ctv H _ (I.kept fun b o e => Heap.get?_push_of_some _ (ext b o e)) (Grows.refl H) hT big (I.hok.fresh big) hc1 (Heap.get?_push_size _ rfl)
/-- a new thing is tracked as it is -/
theorem inv_frz {f : Addr} {o : Obj} {s0 : Shared} (I : Inv X pins σ H s) (I0 : Inv X pins σ H s0 ∨ True) (hn : H f = none) (hs : X.s_0.heap.objs.size ≤ f) (hl : f ≠ X.env.locals) (hc : ∀ x c, X.env.cells.lookup x = some c → c ≠ f) (hp : ∀ p ∈ X.pn ++ pins, p.1 ≠ f) (hg : s.heap.get? f = some o) :
    Inv X pins σ (upd H f (.frz o (.ext fun _ => True))) s := by
  have ne : ∀ b u, H b = some u → b ≠ f := fun b u e => ne_of_none e hn
  have old : ∀ b u, X.s_0.heap.get? b = some u → b ≠ f := fun b u e z => by
    rw [z] at e
    exact absurd (Nat.lt_of_lt_of_le (Heap.lt_size e) hs) (Nat.lt_irrefl _)
  have u := I.base
  refine ⟨I.ok, I.os, I.bare, ⟨u.keep, u.slot, fun b w e n x => ?_, u.there, fun b xs e => ?_, fun b w v e => ?_, fun b ps e => ?_⟩, I.loc, I.cell, ?_, fun x c e => ?_, fun p hq => ?_, fun b w e => ?_, I.len⟩
  · rw [upd_ne (old b w e)]
    exact u.free b w e n x
  · have z := u.tups b xs e
    rw [upd_ne (ne _ _ z)]
    exact z
  · have z := u.frzs b w v e
    rw [upd_ne (ne _ _ z)]
    exact z
  · obtain ⟨m, z⟩ := u.tbls b ps e
    exact ⟨m, by rw [upd_ne (ne _ _ z)]; exact z⟩
  · rw [upd_ne (Ne.symm hl)]
    exact I.free
  · rw [upd_ne (hc x c e)]
    exact I.freeC x c e
  · obtain ⟨z1, z2, z3⟩ := I.pin p hq
    exact ⟨z1, by rw [upd_ne (hp p hq)]; exact z2, z3⟩
  · by_cases q : b = f
    · subst q
      rw [upd_same] at e
      cases e
      exact ⟨hg, trivial, ⟨_, hg⟩, fun _ _ _ _ => trivial⟩
    · rw [upd_ne q] at e
      refine (I.hok b w e).stay (fun c v _ z => z) (fun c z => ?_) fun c xs z => ?_
      · rw [upd_ne (ne _ _ z)]
        exact z
      · rw [upd_ne (ne _ _ z)]
        exact z
end
end MI

set_option Elab.async false
set_option linter.all false
set_option maxRecDepth 100000
set_option maxHeartbeats 16000000
/-! MINI, part 34: a lambda without parameters, as a value. -/
namespace MI
open PySem PySem.Spec PyProof.Rows L2
theorem capsL_get {cp : List (Nat × Nat)} : ∀ {caps ls : List Nat}, capsL cp caps = some ls → ls.length = caps.length ∧ ∀ (i l : Nat), ls[i]? = some l → ∃ j : Nat, caps[i]? = some j ∧ cp.lookup j = some l
  | [], ls, h => by
    cases h
    exact ⟨rfl, fun i l e => by simp at e⟩
  | j :: r, ls, h => by
    unfold capsL at h
    cases e1 : cp.lookup j with
    | none => rw [e1] at h; cases h
    | some l0 =>
      cases e2 : capsL cp r with
      | none => rw [e1, e2] at h; cases h
      | some ls0 =>
        rw [e1, e2] at h
        cases h
        obtain ⟨k1, k2⟩ := capsL_get e2
        refine ⟨by simp [k1], fun i l e => ?_⟩
        cases i with
        | zero =>
          have : l0 = l := by simpa using e
          subst this
          exact ⟨j, by simp, e1⟩
        | succ i =>
          obtain ⟨j', g1, g2⟩ := k2 i l (by simpa using e)
          exact ⟨j', by simpa using g1, g2⟩
theorem nodup_map {α β : Type} {f : α → β} : ∀ {l : List α}, (∀ a ∈ l, ∀ b ∈ l, f a = f b → a = b) → l.Nodup → (l.map f).Nodup
  | [], _, _ => List.nodup_nil
  | a :: l, h, nd => by
    obtain ⟨n1, n2⟩ := List.nodup_cons.mp nd
    rw [List.map_cons]
    refine List.nodup_cons.mpr ⟨fun z => ?_, nodup_map (fun a ha b hb => h a (List.mem_cons_of_mem _ ha) b (List.mem_cons_of_mem _ hb)) n2⟩
    obtain ⟨b, hb, e⟩ := List.mem_map.mp z
    have := h b (List.mem_cons_of_mem _ hb) a List.mem_cons_self e
    exact n1 (this ▸ hb)
/-- the captured names, as a closure holds them -/
def freeR : List (Str × NameKind) → List Str → List Str
  | [], acc => acc
  | (n, k) :: r, acc => if k == .free then freeR r (n :: acc) else freeR r acc
theorem clo_free {cells : List (Str × Addr)} : ∀ (ns : List (Str × NameKind)) (acc : List Str), cloFrom cells ns (acc.map fun n => (n, (cells.lookup n).getD 0)) = (freeR ns acc).map fun n => (n, (cells.lookup n).getD 0)
  | [], acc => rfl
  | (n, k) :: r, acc => by
    unfold cloFrom freeR
    split
    · have := clo_free (cells := cells) r (n :: acc)
      rw [List.map_cons] at this
      exact this
    · exact clo_free r acc
theorem freeR_mem {x : Str} : ∀ {ns : List (Str × NameKind)} {acc : List Str}, x ∈ freeR ns acc ↔ x ∈ acc ∨ (x, NameKind.free) ∈ ns
  | [], acc => by simp [freeR]
  | (n, k) :: r, acc => by
    unfold freeR
    split
    · rename_i q
      have q : k = .free := by simpa using q
      subst q
      rw [freeR_mem, List.mem_cons, List.mem_cons]
      constructor
      · rintro ((rfl | h) | h)
        · exact .inr (.inl rfl)
        · exact .inl h
        · exact .inr (.inr h)
      · rintro (h | h | h)
        · exact .inl (.inr h)
        · cases h
          exact .inl (.inl rfl)
        · exact .inr h
    · rename_i q
      rw [freeR_mem, List.mem_cons]
      constructor
      · rintro (h | h)
        · exact .inl h
        · exact .inr (.inr h)
      · rintro (h | h | h)
        · exact .inl h
        · cases h
          exact absurd (show (NameKind.free == NameKind.free) = true from rfl) q
        · exact .inr h
def noParm (ps : Arguments) : Bool := match ps with
  | ⟨[], [], none, [], [], none, []⟩ => true
  | _ => false
def noLm : LmB := fun _ _ _ _ _ => false
/-- a lambda that is the k-th -/
structure LamM (G : GP) (k : Nat) (ps : Arguments) (body : Expr) (scope : Scope) (L : Lm) : Prop where
  get : G.lams[k]? = some L
  ar : L.arity = 0
  nf : L.nfree = (freeR scope.names []).length
  par : noParm ps = true
  nd : (freeR scope.names []).Nodup
  kind : scope.kind = .function
  co : scope.isCoroutine = false
  gen : scope.isGenerator = false
  own : ∀ y ∈ scope.names, y.2 ≠ .local ∧ y.2 ≠ .cell
  uniq : ∀ y ∈ scope.names, scope.names.lookup y.1 = some y.2
  bd : mE G (freeR scope.names []) noLm false scope L.body body = true
def LamOk (G : GP) (k : Nat) (o : Obj) (cs : List Addr) (c : Addr) (q : Str) : Prop := ∃ ps body scope pm ctv L, o = PySem.W.kla_obj "<lambda>" q ps body scope ((freeR scope.names []).zip cs) pm c ctv ∧ LamM G k ps body scope L ∧ cs.length = (freeR scope.names []).length ∧ cs.Nodup
/-- the same, to be computed -/
def lmB (G : GP) (N : List Str) (sc : Scope) : LmB := fun k caps ps body scope => match G.lams[k]? with
  | some L => decide (L.arity = 0) && decide (L.nfree = (freeR scope.names []).length) && noParm ps && decide (freeR scope.names []).Nodup && decide (scope.kind = .function) && !scope.isCoroutine && !scope.isGenerator &&
      (scope.names.all fun y => !decide (y.2 = .local) && !decide (y.2 = .cell) && decide (scope.names.lookup y.1 = some y.2) && (!decide (y.2 = .free) || celB sc y.1)) && decide (caps.map (N[·]?) = (freeR scope.names []).map some) && mE G (freeR scope.names []) noLm false scope L.body body
  | none => false
theorem lmB_of {G : GP} {N : List Str} {sc : Scope} {k : Nat} {caps : List Nat} {ps : Arguments} {body : Expr} {scope : Scope} (h : lmB G N sc k caps ps body scope = true) : ∃ L, LamM G k ps body scope L ∧ (∀ y ∈ scope.names, y.2 = .free → sc.names.lookup y.1 = some .cell) ∧ caps.map (N[·]?) = (freeR scope.names []).map some := by
  unfold lmB at h
  cases e : G.lams[k]? with
  | none => rw [e] at h; cases h
  | some L =>
    rw [e] at h
    simp only [Bool.and_eq_true, decide_eq_true_eq, Bool.not_eq_true', List.all_eq_true, Bool.or_eq_true, decide_eq_false_iff_not] at h
    obtain ⟨⟨⟨⟨⟨⟨⟨⟨⟨h1, h2⟩, h3⟩, h4⟩, h5⟩, h6⟩, h7⟩, h8⟩, h9⟩, h10⟩ := h
    refine ⟨L, ⟨e, h1, h2, h3, h4, h5, h6, h7, fun y hy => (h8 y hy).1.1, fun y hy => (h8 y hy).1.2, h10⟩, fun y hy f => ?_, h9⟩
    rcases (h8 y hy).2 with z | z
    · exact absurd f z
    · exact cel_of z
/-- what the makers of lambdas lean on -/
structure LamTab (B : Bas) (c P : Addr) (qual : Str) : Prop where
  tab : LamX.TabB B.base B.mg c P
  mem : (P, qual ++ "<lambda>") ∈ B.w.T
  one : ∀ p ∈ B.w.T, p.1 = P → p.2 = qual ++ "<lambda>"
theorem me_lam {G : GP} {B : Bas} {n : Nat} {Y : Cx} {w : Vw} {W : WX} {L0 c P : Addr} {qual : Str} {k : Nat} {caps : List Nat} {ps : Arguments} {body : Expr} {scope : Scope} {pos : Pos} (hB : B.w.lamOk = LamOk G) (g : Good B n Y w W L0) (TB : LamTab B c P qual) (hq : Y.env.qual = qual) (hco : Y.env.code = .ref c)
    (h : lmB G Y.N Y.env.scope k caps ps body scope = true) : PE Y (.Lambda ps body scope pos) (tM Y w W (RD w) fun fr => match capsL fr.cp caps with
      | some ls => ret (.clo k ls)
      | none => no) := by
  obtain ⟨L, LM, hfree, hcaps⟩ := lmB_of h
  refine ⟨fun pins s σ H Q I hh => ?_⟩
  obtain ⟨fr, cf, rfl, hf, hs, hp⟩ := hh
  cases ec : capsL fr.cp caps with
  | none => simp only [ec] at hp; exact False.elim hp
  | some ls =>
    simp only [ec] at hp
    obtain ⟨cl1, cl2⟩ := capsL_get ec
    have hd : defaultsOf ps Y.env = ([], []) := by
      have := LM.par
      unfold noParm at this
      split at this
      · rfl
      · cases this
    have cellOf : ∀ y ∈ scope.names, y.2 = .free → ∃ a, Y.env.cells.lookup y.1 = some a := fun y hy e => I.ok.has _ (.inl (hfree y hy e))
    have tT : w.T = B.w.T := g.view.T
    refine lam_new I (c := c) (P := P) (T := w.T) (by rw [g.base, g.mg]; exact TB.tab) hco (by rw [hq, tT]; exact TB.mem) (by rw [hq, tT]; exact TB.one) hs.tabs hd cellOf fun f c1 pm ctv H1 s1 I1 gr tb big nf hc1 hg => ?_
    have eclo : cloFrom Y.env.cells scope.names [] = (freeR scope.names []).map fun n => (n, (Y.env.cells.lookup n).getD 0) := clo_free scope.names []
    have ezip : ∀ (l : List Str) (φ : Str → Addr), (l.map fun n => (n, φ n)) = l.zip (l.map φ) := fun l φ => by
      induction l with
      | nil => rfl
      | cons a l ih => simp [ih]
    rw [eclo, ezip] at hg
    have cellLt : ∀ x a, Y.env.cells.lookup x = some a → a ≠ f := fun x a e z => by
      obtain ⟨v, hv⟩ := I.cell x a e
      have := hv.lt
      rw [z] at this
      exact absurd (Nat.lt_of_lt_of_le this big) (Nat.lt_irrefl _)
    have J := inv_frz I1 (s0 := s) (.inr trivial) nf (Nat.le_trans I.sz big) (Nat.ne_of_gt (Nat.lt_of_lt_of_le I.lt big)) cellLt (fun p hp z => by
      have := Heap.lt_size (I.pin p hp).1
      rw [z] at this
      exact absurd (Nat.lt_of_lt_of_le this big) (Nat.lt_irrefl _)) hg
    have ne : ∀ a u, H1 a = some u → a ≠ f := fun a u e => ne_of_none e nf
    have keep : ∀ a u, cf.H a = some u → isTbl u = false → (upd H1 f (.frz (PySem.W.kla_obj "<lambda>" (Y.env.qual ++ "<lambda>") ps body scope ((freeR scope.names []).zip ((freeR scope.names []).map fun n => (Y.env.cells.lookup n).getD 0)) pm c1 ctv) (.ext fun _ => True))) a = some u := fun a u e t => by
      have := gr.oth a u e t
      rw [upd_ne (ne _ _ this)]
      exact this
    have tbn : ∀ u, immB u = true → isTbl u = false := fun u h => by cases u <;> first | rfl | cases h
    have m : Mono [] cf ⟨cf.φ, upd H1 f (.frz (PySem.W.kla_obj "<lambda>" (Y.env.qual ++ "<lambda>") ps body scope ((freeR scope.names []).zip ((freeR scope.names []).map fun n => (Y.env.cells.lookup n).getD 0)) pm c1 ctv) (.ext fun _ => True)), cf.st⟩ :=
      ⟨fun _ _ h => h, fun a u e i => keep a u e (tbn u i), fun a u e _ t => keep a u e t, fun a us e => by
        obtain ⟨more, z⟩ := gr.tbl a us e
        exact ⟨more, by show upd H1 f _ a = _; rw [upd_ne (ne _ _ z)]; exact z⟩, fun _ h => .inl h, fun _ _ _ h => h, fun _ o h => ⟨o, h, kindEq.refl o⟩⟩
    have sr : SR w ⟨cf.φ, upd H1 f (.frz (PySem.W.kla_obj "<lambda>" (Y.env.qual ++ "<lambda>") ps body scope ((freeR scope.names []).zip ((freeR scope.names []).map fun n => (Y.env.cells.lookup n).getD 0)) pm c1 ctv) (.ext fun _ => True)), cf.st⟩ := by
      refine ⟨hs.len, hs.nd, fun l b a e f' => ?_, tabs_upd tb fun u hu => by rw [nf] at hu; cases hu⟩
      have kk := hs.ob l b a e f'
      cases b with
      | lst ds =>
        obtain ⟨xs, h1, h2⟩ := kk
        exact ⟨xs, keep _ _ h1 rfl, h2.mono m⟩
      | fro ds =>
        obtain ⟨o, xs, h1, h2⟩ := kk
        exact ⟨o, xs, keep _ _ h1 rfl, h2.mono m⟩
      | ins c0 fs =>
        obtain ⟨dx, gs, h1, h2⟩ := kk
        exact ⟨dx, gs, keep _ _ h1 rfl, RepF.mono m h2⟩
      | dct kvs => exact kk
      | cell d =>
        rcases kk with z | z | ⟨o, u, v, d', e1, h2, h3, h4, h5⟩
        · exact .inl z
        · exact .inr (.inl z)
        · exact .inr (.inr ⟨o, u, v, d', e1, h2, h3, h4.mono m, h5⟩)
    refine ⟨.ref f, _, J, rfl, hp _ _ (.ref f) m sr ?_⟩
    have lenN : caps.length = (freeR scope.names []).length := by
      have := congrArg List.length hcaps
      simpa using this
    have freeAt : ∀ x ∈ freeR scope.names [], ∃ a, Y.env.cells.lookup x = some a := fun x hx => by
      rcases freeR_mem.mp hx with z | z
      · cases z
      · exact cellOf (x, .free) z rfl
    unfold Rep
    refine ⟨f, _, (freeR scope.names []).map fun n => (Y.env.cells.lookup n).getD 0, c1, Y.env.qual ++ "<lambda>", rfl, ?_, ?_, fun i l hi => ?_, by simp [cl1, lenN], _, upd_same⟩
    · rw [g.view.lam, hB]
      refine ⟨ps, body, scope, pm, ctv, L, rfl, LM, by simp, ?_⟩
      refine nodup_map (fun a ha b hb e => ?_) LM.nd
      obtain ⟨u1, h1⟩ := freeAt a ha
      obtain ⟨u2, h2⟩ := freeAt b hb
      rw [h1, h2] at e
      have e : u1 = u2 := e
      subst e
      exact I.ok.inj a b u1 h1 h2
    · show upd H1 f _ c1 = _
      rw [upd_ne (ne _ _ hc1)]
      exact hc1
    · obtain ⟨j, g1, g2⟩ := cl2 i l hi
      obtain ⟨_, x, a, h1, h2, _, _, h3, _⟩ := hf.cp j l g2
      refine ⟨a, ?_, h3⟩
      have hx : (freeR scope.names [])[i]? = some x := by
        have z := congrArg (fun l => l[i]?) hcaps
        simp only [List.getElem?_map, g1, Option.map_some, h1] at z
        cases q : (freeR scope.names [])[i]? with
        | none => rw [q] at z; cases z
        | some y =>
          rw [q] at z
          have z : some (some x) = some (some y) := z
          cases z
          rfl
      rw [List.getElem?_map, hx]
      show some ((Y.env.cells.lookup x).getD 0) = some a
      rw [h2]
      rfl
end MI

set_option Elab.async false
set_option linter.all false
set_option maxRecDepth 100000
set_option maxHeartbeats 16000000
/-! MINI, part 35: a closure called. -/
namespace MI
open PySem PySem.Spec PyProof.Rows L2
theorem cells_in {w : Vw} {c : Cf} (s : SR w c) (ho : w.own = []) : ∀ {ls : List Nat} {cs : List Addr} {ds : List D}, cellsAt c.st ls = some ds → ls.length = cs.length → (∀ (i l : Nat), ls[i]? = some l → ∃ a : Addr, cs[i]? = some a ∧ c.φ[l]? = some a) →
    ∃ vs, RepL w c.φ c.H ds vs ∧ vs.length = cs.length ∧ ∀ (i : Nat) (a : Addr), cs[i]? = some a → ∃ v u o l, vs[i]? = some v ∧ RelV v u ∧ o.data = Data.cell (some u) ∧ w.kc l a o
  | [], cs, ds, h, hl, _ => by
    cases h
    cases cs with
    | nil => exact ⟨[], RepL.nil, rfl, fun i a e => by simp at e⟩
    | cons a r => cases hl
  | l :: ls, [], ds, h, hl, _ => by cases hl
  | l :: ls, a :: cs, ds, h, hl, hc => by
    unfold cellsAt at h
    obtain ⟨a', e1, e2⟩ := hc 0 l (by simp)
    have : a = a' := by simpa using e1
    subst this
    cases e3 : c.st[l]? with
    | none => simp only [e3] at h; cases h
    | some b => cases b with
      | cell o => cases o with
        | none => simp only [e3] at h; cases h
        | some d =>
          simp only [e3] at h
          cases e4 : cellsAt c.st ls with
          | none => rw [e4] at h; cases h
          | some ds' =>
            rw [e4] at h
            cases h
            obtain ⟨vs, r, hv, k⟩ := cells_in s ho e4 (by simpa using hl) fun i l hi => by
              obtain ⟨a'', q1, q2⟩ := hc (i + 1) l (by simpa using hi)
              exact ⟨a'', by simpa using q1, q2⟩
            have kk := s.ob l _ a e3 e2
            rcases kk with z | z | ⟨o, u, v, d', q1, q2, q3, q4, q5⟩
            · rw [ho] at z
              cases z
            · cases z
            · cases q1
              refine ⟨v :: vs, .cons q4 r, by simp [hv], fun i b hb => ?_⟩
              cases i with
              | zero =>
                have : a = b := by simpa using hb
                subst this
                exact ⟨v, u, o, l, by simp, q3, q2, q5⟩
              | succ i =>
                obtain ⟨v', u', o', l', w1, w2, w3, w4⟩ := k i b (by simpa using hb)
                exact ⟨v', u', o', l', by simpa using w1, w2, w3, w4⟩
      | _ => simp only [e3] at h; cases h
theorem zip_at {α β : Type} [BEq α] [LawfulBEq α] : ∀ {ns : List α} {cs : List β} {i : Nat} {n : α}, ns.Nodup → ns.length = cs.length → ns[i]? = some n → ∃ c, cs[i]? = some c ∧ (ns.zip cs).lookup n = some c
  | [], _, _, _, _, _, h => by simp at h
  | a :: ns, [], _, _, _, h, _ => by cases h
  | a :: ns, c :: cs, 0, n, nd, hl, h => by
    have : a = n := by simpa using h
    subst this
    exact ⟨c, by simp, by simp [List.lookup_cons]⟩
  | a :: ns, c :: cs, i + 1, n, nd, hl, h => by
    have h : ns[i]? = some n := by simpa using h
    obtain ⟨c', e1, e2⟩ := zip_at (List.nodup_cons.mp nd).2 (by simpa using hl) h
    have ne : (n == a) = false := by
      rw [beq_eq_false_iff_ne]
      rintro rfl
      exact (List.nodup_cons.mp nd).1 (List.mem_of_getElem? h)
    exact ⟨c', by simpa using e1, by rw [List.zip_cons_cons, List.lookup_cons, ne]; exact e2⟩
theorem zip_of {α β : Type} [BEq α] [LawfulBEq α] : ∀ {ns : List α} {cs : List β} {n : α} {c : β}, (ns.zip cs).lookup n = some c → ∃ i : Nat, ns[i]? = some n ∧ cs[i]? = some c
  | [], _, _, _, h => by simp at h
  | a :: ns, [], _, _, h => by simp at h
  | a :: ns, b :: cs, n, c, h => by
    rw [List.zip_cons_cons, List.lookup_cons] at h
    cases q : n == a with
    | true =>
      rw [q] at h
      cases h
      exact ⟨0, by simp [eq_of_beq q], by simp⟩
    | false =>
      rw [q] at h
      obtain ⟨i, e1, e2⟩ := zip_of h
      exact ⟨i + 1, by simpa using e1, by simpa using e2⟩
theorem nodup_get {α : Type} {x : α} : ∀ {l : List α} {i j : Nat}, l.Nodup → l[i]? = some x → l[j]? = some x → i = j
  | [], _, _, _, h, _ => by simp at h
  | a :: l, 0, 0, _, _, _ => rfl
  | a :: l, 0, j + 1, nd, h, k => by
    have : a = x := by simpa using h
    subst this
    exact absurd (List.mem_of_getElem? (by simpa using k)) (List.nodup_cons.mp nd).1
  | a :: l, i + 1, 0, nd, h, k => by
    have : a = x := by simpa using k
    subst this
    exact absurd (List.mem_of_getElem? (by simpa using h)) (List.nodup_cons.mp nd).1
  | a :: l, i + 1, j + 1, nd, h, k => congrArg (· + 1) (nodup_get (List.nodup_cons.mp nd).2 (by simpa using h) (by simpa using k))
/-- a closure's frame -/
abbrev cloEnv (q : Str) (scope : Scope) (L a c1 : Addr) (cs : List Addr) : Env := PySem.W.envX q scope L a (.ref c1) ((freeR scope.names []).zip cs)
/-- the context of a closure's body, entered from X's frames -/
def cloCx (X : Cx) (A : Around) (s : Shared) (H : Hp) (E : XK) (q : Str) (scope : Scope) (a c1 : Addr) (cs : List Addr) : Cx where
  prog := X.prog
  w := X.w
  K := X.K
  mg := X.mg
  base := X.base
  A := A.deeper (cloEnv q scope s.heap.objs.size a c1 cs)
  N := freeR scope.names []
  s_0 := s
  H_0 := H
  env := cloEnv q scope s.heap.objs.size a c1 cs
  outer := X.stack
  stack := cloEnv q scope s.heap.objs.size a c1 cs :: X.stack
  ex := []
  fn := fun _ => false
  calm := true
  pn := []
  xe := fun e s' => wpAny (model X.prog X.w) (A.deeper (cloEnv q scope s.heap.objs.size a c1 cs)) (leaving (cloEnv q scope s.heap.objs.size a c1 cs) e) (fun _ s'' => L2N.CX X.prog X.w X.stack H s E e s'') (fun e' s'' => L2N.CX X.prog X.w X.stack H s E e' s'') s'
section
variable {G : GP} {B : Bas} {n : Nat}
theorem clo_run (hS : HS G B n) (hB : B.w.lamOk = LamOk G) {X : Cx} {w : Vw} {W : WX} {L0 : Addr} (g : Good B (n + 1) X w W L0) {pins : List (Addr × Obj)} {σ : L2.St} {s : Shared} {c : Cf} {E : XK} {Q : VK} {A : Around} {k : Nat} {ls : List Nat} {v : V} {u : Value}
    (I : Inv X pins σ c.H s) (e0 : Env0 X.prog X.w X.K X.mg X.base A X.stack s c.H) (room : Room (2 * n + 3) A) (hs : SR (inner X w s) c) (rv : Rep (inner X w s) c.φ c.H (.clo k ls) v) (ru : RelV v u)
    (hp : Post (inner X w s) (RD (inner X w s)) c ((calls G (n + 1)).2 k ls [] c.st) Q E) :
    ∃ a, u = .ref a ∧ (∃ c d fd sl, s.heap.get? a = some ⟨c, d, .func fd, sl⟩) ∧ codeAny (model X.prog X.w) A (.call (.ref a) ⟨[], []⟩) (CR (L2N.CX X.prog X.w) X.stack X.prog X.w c.H s Q E) s := by
  unfold Rep at rv
  obtain ⟨a, o, cs, c1, q, rfl, hk, hc1, hcell, hlen, uu, hfr⟩ := rv
  obtain rfl : u = Value.ref a := ru
  rw [show (inner X w s).lamOk = B.w.lamOk from g.view.lam, hB] at hk
  obtain ⟨ps, body, scope, pm, ctv, L, rfl, LM, hcl, hnd⟩ := hk
  have ho : s.heap.get? a = some (PySem.W.kla_obj "<lambda>" q ps body scope ((freeR scope.names []).zip cs) pm c1 ctv) := (I.hok a _ hfr).1
  refine ⟨a, rfl, ⟨_, _, _, _, ho⟩, ?_⟩
  obtain ⟨⟨oc, vs0, t0, g1, g2, g3⟩, _, _⟩ := I.hok c1 _ hc1
  have hbind : bindArgs (PySem.W.kla_fn "<lambda>" q ps body scope ((freeR scope.names []).zip cs) pm (.ref c1) ctv) ⟨[], []⟩ = pure [] := by
    have := LM.par
    unfold noParm at this
    split at this
    · rfl
    · cases this
  have hp1 : Post (inner X w s) (RD (inner X w s)) c (runLam G (calls G n).1 (calls G n).2 L ls [] c.st) Q E := by
    have e : (calls G (n + 1)).2 k ls [] = runLam G (calls G n).1 (calls G n).2 L ls [] := by
      simp only [calls, LM.get]
    rw [e] at hp
    exact hp
  unfold runLam at hp1
  by_cases hcond : ([] : List D).length = L.arity ∧ ls.length = L.nfree
  · rw [if_pos hcond] at hp1
    cases e4 : cellsAt c.st ls with
    | none => rw [e4] at hp1; exact False.elim hp1
    | some ds =>
      rw [e4] at hp1
      obtain ⟨vs, rvs, lvs, kv⟩ := cells_in hs rfl e4 hlen hcell
      have nl : (freeR scope.names []).length = cs.length := hcl.symm
      refine PySem.W.kla_callFunE room.depth ho rfl LM.co LM.gen rfl ⟨c1, oc, vs0, t0, rfl, g1, g2, g3⟩ ?_
      rw [hbind]
      refine wpAny_pure (wpAny_newFunctionEnv (fun y hy => (LM.own y hy).2) (fun y hy => absurd hy (by simp)) (fun h₁ hns hsb => ⟨I.nolimit.fresh _ hsb, ?_⟩) LM.kind)
      show codeAny _ _ (.expr body (cloEnv q scope s.heap.objs.size a c1 cs)) _ _
      have kp : ∀ b o, s.heap.get? b = some o → h₁.get? b = some o := fun b o e => hsb.extBut b o (Nat.ne_of_lt (Heap.lt_size e)) (Heap.get?_push_of_some _ e)
      -- a captured name's cell
      have at_ : ∀ {y : Str} {b : Addr}, ((freeR scope.names []).zip cs).lookup y = some b → ∃ i v u, (freeR scope.names [])[i]? = some y ∧ vs[i]? = some v ∧ RelV v u ∧ s.heap.IsCell b (some u) ∧ c.H b = none := fun {y b} e => by
        obtain ⟨i, e1, e2⟩ := zip_of e
        obtain ⟨v, u, o, l, w1, w2, w3, w4⟩ := kv i b e2
        obtain ⟨z1, z2, _, _⟩ := kc_in g.kc I w4
        exact ⟨i, v, u, e1, w1, w2, ⟨o, z1, w3⟩, z2⟩
      have isfree : ∀ y, y ∈ freeR scope.names [] → scope.names.lookup y = some .free := fun y hy => by
        rcases freeR_mem.mp hy with z | z
        · cases z
        · exact LM.uniq _ z
      have J : Inv (cloCx X A s c.H E q scope a c1 cs) [] (vs.map some) c.H { s with heap := h₁, toks := s.toks + ([] : List (Str × Value)).length } := by
        refine ⟨⟨e0.mod, LM.kind, rfl, rfl, Nat.le_refl _, fun y z b e1 e2 => ?_, fun y hy => ?_, fun y b z _ => (by cases z), fun _ => room.hd, Around.frames_deeper e0.frames, .inr ⟨rfl, rfl⟩, fun b z => (by cases z), e0.bs, e0.bsz, fun b _ _ z => (by cases z), fun b z => (by cases z), e0.funs, e0.frf⟩,
          rfl, e0.bare, Un.kept kp, ⟨_, hns, fun i y v e1 e2 e3 => ?_⟩, fun y b e => ?_, e0.hok.fresh (Nat.le_refl _), fun y b e => ?_, fun p hq => (by cases hq), e0.hok.kept kp, ?_⟩
        · obtain ⟨i, q1, q2⟩ := zip_of (show ((freeR scope.names []).zip cs).lookup y = some b from e1)
          obtain ⟨j, q3, q4⟩ := zip_of (show ((freeR scope.names []).zip cs).lookup z = some b from e2)
          have eij : i = j := nodup_get hnd q2 q4
          subst eij
          rw [q1] at q3
          exact Option.some.inj q3
        · have hy : scope.names.lookup y = some .cell ∨ scope.names.lookup y = some .free := hy
          rcases hy with hy | hy
          · exact absurd rfl (LM.own _ (PySem.mem_of_lookup hy)).2
          · have hm : y ∈ freeR scope.names [] := freeR_mem.mpr (.inr (PySem.mem_of_lookup hy))
            obtain ⟨i, hi⟩ := List.getElem?_of_mem hm
            obtain ⟨b, _, hb⟩ := zip_at LM.nd nl hi
            exact ⟨b, hb⟩
        · have e1 : (freeR scope.names [])[i]? = some y := e1
          obtain ⟨b, h1, h2⟩ := zip_at LM.nd nl e1
          obtain ⟨v', u', o', l', w1, w2, w3, w4⟩ := kv i b h1
          obtain ⟨z1, _⟩ := kc_in g.kc I w4
          rw [List.getElem?_map, w1] at e2
          cases e2
          exact ⟨u', w2, .inr ⟨.inr (isfree y (List.mem_of_getElem? e1)), b, h2, o', kp _ _ z1, w3⟩⟩
        · obtain ⟨i, v, u, _, _, _, ⟨o, ho, hd⟩, _⟩ := at_ (show ((freeR scope.names []).zip cs).lookup y = some b from e)
          exact ⟨_, o, kp _ _ ho, hd⟩
        · obtain ⟨_, _, _, _, _, _, _, z⟩ := at_ (show ((freeR scope.names []).zip cs).lookup y = some b from e)
          exact z
        · show (vs.map some).length = (freeR scope.names []).length
          rw [List.length_map, lvs, nl]
      have good : Good B n (cloCx X A s c.H E q scope a c1 cs) (inner X w s) (fun cls da _ H => E cls da H) (cloCx X A s c.H E q scope a c1 cs).env.locals :=
        ⟨g.prog, g.wd, g.K, g.mg, g.base, g.view.trans inner_same, rfl, LM.nd, room.deeper _, thr_of rfl rfl (L2N.takes_of (E := E) rfl rfl rfl rfl), fun l a o hk => by
          obtain ⟨k1, k2, k3, _⟩ := kc_in g.kc I hk
          exact ⟨k1, k2, k3, fun z => by cases z⟩⟩
      have C : Ctx G B n noLm (freeR scope.names []) false scope (cloCx X A s c.H E q scope a c1 cs) (inner X w s) (fun cls da _ H => E cls da H) (cloCx X A s c.H E q scope a c1 cs).env.locals := ⟨good, rfl, rfl, fun z => (by cases z), fun z => (by cases z)⟩
      have pe := ((ev_ok hS L.body).ex _ _ _ _ _ _ _ C LM.bd).1
      have hf : FrR (cloCx X A s c.H E q scope a c1 cs) (inner X w s) ⟨([] ++ ds).map some, []⟩ (vs.map some) c := by
        refine ⟨?_, fun i d e => ?_, fun i l e => (by cases e), fun l hl => (by cases hl)⟩
        · show (([] ++ ds).map some).length = (vs.map some).length
          simp [rvs.length]
        · have e : (ds.map some)[i]? = some (some d) := e
          rw [List.getElem?_map] at e
          cases q : ds[i]? with
          | none => rw [q] at e; cases e
          | some d' =>
            rw [q] at e
            cases e
            obtain ⟨v, h1, h2⟩ := rvs.get q
            exact ⟨v, by rw [List.getElem?_map, h1]; rfl, h2⟩
      refine PySem.W.kla_codeExpr (wpAny_mono (pe.run [] _ _ c.H Q J ⟨_, c, rfl, hf, hs, hp1⟩) (fun v s' hq => ?_) fun e s' hq => hq)
      obtain ⟨w', H', J', rv', qq⟩ := hq
      exact ⟨w', H', J'.os, J'.bare, J'.base, J'.hok, rv', qq⟩
  · rw [if_neg hcond] at hp1
    exact False.elim hp1
end
end MI

set_option Elab.async false
set_option linter.all false
set_option maxRecDepth 100000
set_option maxHeartbeats 8000000
/-! MINI, part 36: lists walked while an exception is handled. -/
namespace MI
open PySem PySem.Spec PyProof.Rows L2
/-- a list's iterator at its end, an exception being handled -/
theorem next_end_hot {prog : Program} {w : World} {A : Around} {E : Value → Shared → Prop} {s : Shared} {it l x1 : Addr} {i : Nat} {items : Array Value} {Q : Option Value → Shared → Prop} (hot : HotX.HotAt A x1 s.heap) (ne : it ≠ x1)
    (hit : s.heap.IsListIter it l i) (hl : s.heap.IsList l items) (hx : items[i]? = none) (hQ : ∀ h', (∀ b o, b ≠ it → s.heap.get? b = some o → h'.get? b = some o) → Q none { s with heap := h' }) :
    wpAny (model prog w) A (pyNext (.ref it)) Q E s := by
  obtain ⟨o, ho, hc, hd⟩ := id hit
  obtain ⟨ol, hol, _, nl, hdl⟩ := hl
  obtain ⟨hh, o1, vs1, h1, d1, c1⟩ := hot
  unfold pyNext
  refine wpAny_bind (wpAny_attempt (wpAny_callSpecial?_slot (name := Str.ofString "__next__") hit.typeIs slot_listiter_next (wpAny_call_entry slot_listiter_next hit.typeIs entry_listiter_next ?_ (args_listiter_next _))))
  show wpAny _ _ (field (.ref it) 0 >>= _) _ _ s
  refine wpAny_bind (wpAny_field ho hd (x := .ref l) rfl ?_)
  show wpAny _ _ (if (Value.ref l == Value.none) = true then _ else _) _ _ s
  rw [if_neg (by exact Bool.false_ne_true)]
  show wpAny _ _ (field (.ref it) 1 >>= _) _ _ s
  refine wpAny_bind (wpAny_field ho hd (x := .int i 0) rfl ?_)
  show wpAny _ _ (seqItems? (.ref l) >>= _) _ _ s
  refine wpAny_bind (wpAny_seqItems hol hdl ?_)
  simp only [Int.toNat_natCast, hx]
  refine wpAny_bind (wpAny_rule (wpAny_bind (wpAny_setField ho hd (by simp) ?_)))
  show wpAny _ _ (newExc (.type "StopIteration") [] >>= _) _ _ _
  refine wpAny_bind ?_
  simp only [newExc, newTuple]
  refine wpAny_bind (wpAny_newObj_type ?_ (by size_fits))
  refine wpAny_bind (m := firstArgMember _ _) (wpAny_of_eq (a := Value.none) (by first | rfl | (simp only [firstArgMember]; rfl)) ?_)
  refine wpAny_newObj_type ?_ (by size_fits)
  have k1 : ∀ b o', b ≠ it → s.heap.get? b = some o' → (s.heap.update it (Obj.mapFields (·.setIfInBounds 0 Value.none))).get? b = some o' := fun b o' q e => by
    rw [Heap.get?_update_other _ _ (Ne.symm q)]
    exact e
  refine HotX.raiseNew_hot ⟨hh, o1, vs1, Heap.get?_push_of_some _ (Heap.get?_push_of_some _ (k1 x1 o1 (Ne.symm ne) h1)), d1, c1⟩ (Nat.ne_of_lt (Heap.lt_size (Heap.get?_push_of_some _ (k1 x1 o1 (Ne.symm ne) h1)))) (Heap.get?_push_size _ rfl) rfl
    (by first | (simp; done) | (simp; omega) | (simp only [Array.size_append]; simp; omega)) ?_
  refine wpAny_bind (wpAny_isInstance (T := "StopIteration") (b := true) ⟨_, Heap.get?_update_self _ (Heap.get?_push_size _ rfl) rfl, rfl⟩ isSubtype_stop ?_)
  refine wpAny_pure (hQ _ fun b o' q e => ?_)
  rw [Heap.get?_update_other _ _ (Nat.ne_of_gt (Heap.lt_size (Heap.get?_push_of_some _ (k1 b o' q e))))]
  exact Heap.get?_push_of_some _ (Heap.get?_push_of_some _ (k1 b o' q e))
/-- the exception that is handled stands in every state, its context None -/
def CnHot : Cx → Prop := fun X => ∃ (p : Addr) (o : Obj) (vs : Array Value), X.A.handled = some (.ref p) ∧ o.data = .fields vs ∧ vs[2]? = some .none ∧ (∀ pins H b, FpOk X pins H b → b ≠ p) ∧ ∀ pins σ H s, Inv X pins σ H s → s.heap.get? p = some o
theorem hot_of {X : Cx} (h : L2H.HotC X) : CnHot X := by
  obtain ⟨p, ⟨hh, vs, e, c⟩, hp⟩ := h
  exact ⟨p.1, p.2, vs, hh, e, c, fun pins H b f z => f.2.2.2.2.2 p (List.mem_append_left _ hp) z.symm, fun pins σ H s I => (I.pin p (List.mem_append_left _ hp)).1⟩
theorem hot_blk {X : Cx} {pins : List (Addr × Obj)} {σ : L2.St} {H : Hp} {s : Shared} {scope : Scope} {ce : Env} {fp : List Addr} (h : L2H.HotC X) (I : Inv X pins σ H s) (f : ∀ b, b ∈ fp → FpOk X pins H b ∧ b < s.heap.objs.size) : CnHot (Blk X s H scope ce fp) := by
  obtain ⟨p, ⟨hh, vs, e, c⟩, hp⟩ := h
  have P := I.pin p (List.mem_append_left _ hp)
  have nfp : p.1 ∉ fp := fun q => (f p.1 q).1.2.2.2.2.2 p (List.mem_append_left _ hp) rfl
  refine ⟨p.1, p.2, vs, hh, e, c, fun pins' H' b g z => ?_, fun pins' σ' H' s' J => ?_⟩
  · rcases g.2.2.2.1 with q | q
    · exact nfp (z ▸ q)
    · have q : s.heap.objs.size ≤ b := q
      have hlt : p.1 < s.heap.objs.size := Heap.lt_size P.1
      exact absurd (z ▸ q : s.heap.objs.size ≤ p.1) (Nat.not_le.mpr hlt)
  · refine J.base.keep p.1 p.2 P.1 P.2.1 (fun q => ?_) nfp
    rcases List.mem_cons.mp (I.stkSub p.1 q) with z | z
    · exact P.2.2.1 z
    · exact P.2.2.2.1 z
/-- a list walked -/
theorem turn_hot {P : Program} {w : World} {K : PySem.W.Frag} {tg : Expr} (a it : Addr) : TurnP CnHot P w K tg (Itl K a) [it] it (fun i h => h.IsListIter it a i) := by
  have T := turn_list (P := P) (w := w) (K := K) (tg := tg) a it
  refine ⟨T.obj, T.keep, fun X hP hw hK hc i pins s σ H E I hf st hg => ?_, fun X hP hw hK hc i pins s σ H E I hf st hg => ?_, T.self⟩
  · subst hP hw hK
    obtain ⟨xs, x, hq, hx⟩ := hg
    obtain ⟨its, rv, p, hz⟩ := I.list hq
    obtain ⟨u, hu, ru⟩ := rv.get hx
    obtain ⟨f0, f1, f2, f3, f4, f5⟩ := hf it (List.mem_singleton.mpr rfl)
    refine wpAny_pyNext_list_item st p.isList (x := u) (by simpa using hu) fun h' st' sb => ?_
    have I1 : Inv X pins σ H { s with heap := h' } := I.turned (t' := s.toks) (fun b o hb e => (sb.2 b hb).trans e) f0 f1 f3 f4 f5
    obtain ⟨o, e, c, d⟩ := id st'
    exact ⟨u, rfl, go_of (s := { s with heap := h' }) e c d (by decide) ⟨x, H, I1, ru, ⟨rfl, fun ys hy => by
      rw [I.list_inj hy hq]
      exact hx⟩, st', fun b hb => (hf b hb).1⟩⟩
  · subst hP hw hK
    obtain ⟨xs, hq, hx⟩ := hg
    obtain ⟨its, rv, p, hz⟩ := I.list hq
    have F := hf it (List.mem_singleton.mpr rfl)
    obtain ⟨f0, f1, f2, f3, f4, f5⟩ := id F
    have hl := rv.length
    obtain ⟨x1, o1, vs, hh, e, c, n, k⟩ := hc
    exact next_end_hot ⟨hh, o1, vs, k _ _ _ _ I, e, c⟩ (n _ _ _ F) st p.isList (by simp; omega) fun h' eb => ⟨rfl, I.turned (t' := s.toks) (fun b o hb e => eb b o hb e) f0 f1 f3 f4 f5⟩
/-- a list's walk in such a context -/
theorem mi_hot {X : Cx} {w : Vw} {W : WX} {tg a : Expr} {ma : Fr → M D} {ds : List D} (hK : w.K = X.K) (ha : PE X a (tM X w W (RD w) ma)) (hl : ∀ fr st, ∃ st' l, ma fr st = .ok (.loc l) st' ∧ st'[l]? = some (.lst ds)) :
    PIP CnHot X tg a (tM X w W (RI w) fun fr => bnd (ma fr) fun x => srcOf x) := by
  refine ⟨fun pins s σ H R I h => ?_⟩
  obtain ⟨fr, c, rfl, hf, hs, hp⟩ := h
  obtain ⟨st', l, e1, e2⟩ := hl fr c.st
  have hq := hp.at_ e1
  unfold srcOf at hq
  simp only [e2] at hq
  refine thn (ha.run pins s σ c.H (fun v H' => ∃ p xs, v = .ref p ∧ SqL X.K H' p xs ∧ R (Itl X.K p) H') I (tM_at hf hs e1 fun φ' H' v mo s' r => ?_)) fun v s1 ⟨x, H1, I1, r1, p, xs, ex, hx, q⟩ => ?_
  · obtain ⟨p, rfl, h1⟩ := rep_loc.mp r
    obtain ⟨xs, h2, h3⟩ := s'.ob l _ p e2 h1
    exact ⟨p, xs, rfl, SqL.of h2, hq φ' H' _ mo s' (hK ▸ ri_list h1)⟩
  · subst ex
    cases r1
    obtain ⟨its, rv, pl, hz⟩ := I1.list hx
    refine wpAny_pyIter_list pl.isList ?_
    refine ⟨s1.heap.objs.size, [s1.heap.objs.size], _, _, H1, rfl, I1.kept (t' := s1.toks) fun b o e => Heap.get?_push_of_some _ e, turn_hot p _, ⟨_, Heap.get?_push_size _ rfl, rfl, rfl⟩, fun b hb => ?_, q⟩
    have e : b = s1.heap.objs.size := List.mem_singleton.mp hb
    subst e
    exact I1.fpOk (Nat.le_refl _) (I1.hok.fresh (Nat.le_refl _))
end MI

set_option Elab.async false
set_option linter.all false
set_option maxRecDepth 100000
set_option maxHeartbeats 8000000
/-! MINI, part 37: the classes of an exception that is handled. -/
namespace MI
open PySem PySem.Spec PyProof.Rows L2
/-- isinstance(e, c), e pinned, its dict tracked -/
theorem cr_isX {X : Cx} {a D dd : Addr} {oe : Obj} (C : L2.ExcC X.K D) (hp : (a, oe) ∈ X.pn) (hz : Zc (.ref D) (some dd) oe) (hf : ∃ vs, oe.data = .fields vs) :
    CallR X (.builtin "isinstance") (fun xs H Q => ∃ (c : V) (cv : Value) (b : Bool) (fs : List (Str × V)), xs = [.ref a, c] ∧ (∀ u, RelV c u → u = cv) ∧ PySem.W.kitOne X.K (.ref D) cv = some b ∧ H dd = some (.xd fs) ∧ Q (.bl b) H) := by
  intro pins s σ H xs us Q I r ⟨c, cv, b, fs, ex, hcv, e, hd, q⟩
  subst ex
  cases r with
  | cons rx rr =>
    cases rr with
    | cons rt rr =>
      cases rr
      cases rx
      have ec := hcv _ rt
      subst ec
      have hget := (I.pin (a, oe) (List.mem_append_left _ hp)).1
      obtain ⟨vs, hv⟩ := hf
      have O : ObjOk X.prog X.w H s.heap dd (.xd fs) := I.hok dd _ hd
      obtain ⟨mA, hns, _⟩ := O
      obtain ⟨od, ho, _⟩ := lookIn_ns hns
      have J : PySem.W.InstAt s.heap a oe D (some od) := ⟨hget, hz.1, by unfold PySem.W.notCls; rw [hv] <;> rfl, by rw [hz.2]; exact ho⟩
      have hcl : (PySem.W.clsIn X.K D).isSome = true := by
        obtain ⟨cd, hc, _⟩ := PySem.W.any_some C.hd
        rw [hc]
        rfl
      exact PySem.W.kia_one (PySem.W.kitx_exc hcl C.hg C.hk C.hs C.ha C.hn C.ht C.hm) I.kIn J e (fun z => nomatch z) fun tk => ⟨.bl b, H, I.kept (t' := tk) fun _ _ z => z, rfl, q⟩
/-- isinstance(e, C) written -/
theorem pe_isX {X : Cx} {a D dd C' : Addr} {oe : Obj} {i : Nat} {x z : Str} {p p1 p2 pos : Pos} (C : L2.ExcC X.K D) (hp : (a, oe) ∈ X.pn) (hz : Zc (.ref D) (some dd) oe) (hf : ∃ vs, oe.data = .fields vs) {b : Bool} (e : PySem.W.kitOne X.K (.ref D) (.ref C') = some b)
    (hg : Gl X "isinstance") (hm : X.mg "isinstance" = none) (hN : X.N[i]? = some x) (hv : Vis X.env.scope x) (hd : (x == ("__debug__" : Str)) = false) (hcd : (x == ("__classdict__" : Str)) = false) (hgz : Gl X z) (hmz : X.mg z = some (.ref C')) (hdz : (z == ("__debug__" : Str)) = false) :
    PE X (.Call (.Name "isinstance" p) [.Name x p1, .Name z p2] [] pos) (fun σ H Q => σ[i]? = some (some (.ref a)) ∧ (∃ fs, H dd = some (.xd fs)) ∧ Q (.bl b) H) := by
  have pz : PE X (.Name z p2) (tC (.ref C')) := ⟨fun pins s σ H Q I h => ld_glob I hgz hmz ⟨.ref C', H, I, rfl, h⟩ hdz⟩
  have px := pe_var (pos := p1) hN hv hd hcd
  have key := pe_callB (id := "isinstance") (p := p) (pos := pos) (cr_isX C hp hz hf) hg hm (by decide +kernel) (pa_cons px (pa_cons pz pa_nil))
  exact PE.imp key fun σ H Q ⟨h1, ⟨fs, h2⟩, h3⟩ => ⟨.ref a, h1, .ref C', .ref C', b, fs, rfl, fun u r => r, e, h2, h3⟩
end MI

set_option Elab.async false
set_option linter.all false
set_option maxRecDepth 100000
set_option maxHeartbeats 8000000
/-! MINI, part 38: the list of a handled exception's classes. -/
namespace MI
open PySem PySem.Spec PyProof.Rows L2
/-- a reading where no local stands but the exception -/
def tX {α β : Type} (w : Vw) (i : Nat) (a dd : Addr) (R : RR α β) (m : M α) : L2.St → Hp → (β → Hp → Prop) → Prop := fun σ H P =>
  ∃ c : Cf, c.H = H ∧ SR w c ∧ σ[i]? = some (some (.ref a)) ∧ (∃ fs, H dd = some (.xd fs)) ∧ PostM w R c m P fun _ _ _ => False
section
variable {X : Cx} {w : Vw} {i : Nat} {a dd : Addr}
/-- a name and whether it is one -/
abbrev pairD (q : Str × Bool) : D := .tup [.str q.1, .bl q.2]
theorem me_pair {z : Str} {b : Bool} {e1 e2 : Expr} {k : Nat} {pos : Pos} (h1 : PE X e1 (tC (.str z))) (h2 : PE X e2 (fun σ H Q => σ[i]? = some (some (.ref a)) ∧ (∃ fs, H dd = some (.xd fs)) ∧ Q (.bl b) H)) (s1 : PySem.W.isStarred e1 = false) (s2 : PySem.W.isStarred e2 = false) :
    PE X (.Tuple [e1, e2] k pos) (tX w i a dd (RD w) (ret (pairD (z, b)))) := by
  obtain ⟨t1, _⟩ := star_plain (pos := pos) (env := X.env) (e := e1) (es := [e2]) fun y hy => by
    rcases List.mem_cons.mp hy with rfl | hy
    · exact s1
    · rw [List.mem_singleton.mp hy]
      exact s2
  obtain ⟨t2, _⟩ := star_plain (pos := pos) (env := X.env) (e := e2) (es := []) fun y hy => by
    rw [List.mem_singleton.mp hy]
    exact s2
  refine PE.imp (pe_tup (pa_cons h1 (pa_cons h2 pa_nil t2) t1)) fun σ H Q ⟨c, e, hs, hσ, hd, hp⟩ => ?_
  subst e
  exact ⟨hσ, hd, by show 2 ≤ sizeLine; decide, PostM.newT hp hs (.cons (rep_str.mpr rfl) (.cons (rep_bl.mpr rfl) RepL.nil))⟩
/-- some of them -/
inductive Pairs (X : Cx) (w : Vw) (i : Nat) (a dd : Addr) : List Expr → List (Str × Bool) → Prop where
  | nil : Pairs X w i a dd [] []
  | cons {e : Expr} {es : List Expr} {q : Str × Bool} {qs : List (Str × Bool)} : PE X e (tX w i a dd (RD w) (ret (pairD q))) → PySem.W.isStarred e = false → Pairs X w i a dd es qs → Pairs X w i a dd (e :: es) (q :: qs)
theorem Pairs.plain {es : List Expr} {qs : List (Str × Bool)} (h : Pairs X w i a dd es qs) : ∀ y ∈ es, PySem.W.isStarred y = false := by
  induction h with
  | nil => exact fun y hy => by cases hy
  | cons _ s _ ih =>
    intro y hy
    rcases List.mem_cons.mp hy with rfl | hy
    · exact s
    · exact ih y hy
theorem pa_pairs {es : List Expr} {qs : List (Str × Bool)} (h : Pairs X w i a dd es qs) : PA X es (tX w i a dd (RL w) (ret (.tup (qs.map pairD)))) := by
  induction h with
  | nil => exact ⟨fun pos pins s σ H Q I ⟨c, e, hs, hσ, hd, hp⟩ => (pa_nil).run pos pins s σ H Q I (by
      subst e
      exact hp c.φ c.H [] (Mono.refl c) hs ⟨[], rfl, RepL.nil⟩)⟩
  | @cons e es q qs h1 s r ih =>
    obtain ⟨t1, _⟩ := star_plain (pos := ⟨0, 0, 0, 0⟩) (env := X.env) (e := e) (es := es) fun y hy => by
      rcases List.mem_cons.mp hy with rfl | hy
      · exact s
      · exact r.plain y hy
    refine ⟨fun pos pins s σ H Q I ⟨c, e, hs, hσ, ⟨fs, hd⟩, hp⟩ => (pa_cons h1 ih t1).run pos pins s σ H Q I ?_⟩
    subst e
    refine ⟨c, rfl, hs, hσ, ⟨fs, hd⟩, fun φ' H' v mo s' rv => ?_⟩
    exact ⟨⟨φ', H', c.st⟩, rfl, s', hσ, ⟨fs, mo.imm dd _ hd rfl⟩, fun φ2 H2 vs m2 s2 ⟨ds, e, r2⟩ => hp φ2 H2 (v :: vs) (mo.trans m2) s2 ⟨_, rfl, by
      cases e
      exact .cons (rv.mono m2) r2⟩⟩
/-- their list -/
theorem me_pairs {es : List Expr} {qs : List (Str × Bool)} {pos : Pos} (h : Pairs X w i a dd es qs) (hl : qs.length ≤ sizeLine) : PE X (.List es pos) (tX w i a dd (RD w) (alloc (.lst (qs.map pairD)))) := by
  refine PE.imp (pe_lst (pa_pairs h)) fun σ H Q ⟨c, e, hs, hσ, hd, hp⟩ => ?_
  subst e
  refine ⟨c, rfl, hs, hσ, hd, fun φ' H' vs mo s' ⟨ds, e, r⟩ => ?_⟩
  cases e
  refine ⟨by rw [← r.length, List.length_map]; exact hl, ?_⟩
  exact PostM.allocL (E := fun _ _ _ => False) (c := ⟨φ', H', c.st⟩) (fun φ2 H2 v m2 s2 r2 => hp φ2 H2 v (mo.trans m2) s2 r2) s' r
end
end MI

set_option Elab.async false
set_option linter.all false
set_option maxRecDepth 100000
set_option maxHeartbeats 8000000
/-! MINI, part 39: a def called while an exception is handled. -/
namespace MI
open PySem PySem.Spec PyProof.Rows L2
theorem run_hot {CX0 : CXT} {P : Program} {wd : World} {K : PySem.W.Frag} {mg : Str → Option Value} {base : Heap} {fa : Addr} {d : FnD} {A : Around} {outer : List Env} {s : Shared} {H : Hp} {Q : VK} {E : XK} {q : Addr × Obj} {us : List Value} {vs : List V} {args : Args} {t : TS}
    (lk : K.lookup fa = some ⟨d.oc, d.od, .func d.fd, d.osl⟩) (cd : PySem.W.codeIn K d.cdv d.qual = true) (S : FnScope d.N d.ps d.scope) (dep : A.depth < recursionLimit) (pin : L2H.PinOk outer H s q) (e0 : Env0 P wd K mg base A outer s H)
    (bt : BindsTo s d.fd args (d.ps.zip us)) (rv : Vals vs us) (len : vs.length = d.ps.length) (ht : PSs (L2H.cxH CX0 P wd K mg base d.N d.qual d.scope fa d.cdv A outer s H E q) d.body t) (hq : t { nx := fun _ H' => Q .non H', rt := Q } (L2.start d.N vs) H) :
    codeAny (model P wd) A (.call (.ref fa) args) (CR CX0 outer P wd H s Q E) s := by
  have kin : K.In s.heap := e0.mod.kin.keeps fun b o e => (e0.bs b o e).1
  have nolim : s.heap.NoLimit := e0.mod.nolimit.keeps fun b o e => (e0.bs b o e).1
  have kinds : ∀ z ∈ d.ps.zip us, d.scope.names.lookup z.1 = some .local ∨ (d.scope.names.lookup z.1 = some .cell ∧ ((cellsFrom (s.heap.objs.size + 1) d.scope.names []).lookup z.1).isSome = true) := fun ⟨x, u⟩ hz =>
    (S.par x (List.of_mem_zip hz).1).elim .inl fun c => .inr ⟨c, PySem.W.cellsFrom_some _ _ _ (.inl c)⟩
  refine codeAny_call_function dep (kin _ _ lk) rfl S.co S.gen rfl (PySem.W.codeRec_of kin cd) (bt _ _ _ _ (wpAny_newFunctionEnv_cells S.kind kinds fun ev he s1 ic => ?_))
  subst he
  refine ⟨nolim.keeps ic.toInCall.keep, codeAny_func ?_⟩
  have J := L2H.inv_startH (CX := CX0) (E := E) (w := wd) S pin e0 len rv ic
  refine wpAny_mono (ht.run [] s1 _ H _ J hq) (fun fl s2 h => ?_) fun _ _ h => h
  cases fl with
  | ret u =>
    obtain ⟨v, σ2, H2, I2, r2, z⟩ := h
    exact ⟨v, H2, I2.os, I2.bare, I2.base, I2.hok, r2, z⟩
  | next =>
    obtain ⟨σ2, H2, I2, z⟩ := h
    exact ⟨.non, H2, I2.os, I2.bare, I2.base, I2.hok, rfl, z⟩
  | brk => exact h.choose_spec.choose_spec.2.elim
  | cont => exact h.choose_spec.choose_spec.2.elim
end MI

set_option Elab.async false
set_option linter.all false
set_option maxRecDepth 100000
set_option maxHeartbeats 8000000
/-! MINI, part 40: the classes of the handled exception asked for. -/
namespace MI
open PySem PySem.Spec PyProof.Rows L2
section
variable {X : Cx} {w : Vw} {i : Nat} {a dd fa : Addr} {oe : Obj} {d : FnD} {f x y : Str} {p p1 pos rp lp : Pos} {es : List Expr} {qs : List (Str × Bool)}
/-- f(e), f the def that lists its classes -/
theorem pe_classes (lk : X.K.lookup fa = some ⟨d.oc, d.od, .func d.fd, d.osl⟩) (cd : PySem.W.codeIn X.K d.cdv d.qual = true) (S : FnScope d.N d.ps d.scope) (bi : L2.Binds X.K d.fd d.ps []) (dep : X.A.depth < recursionLimit) (hp : (a, oe) ∈ X.pn) (ep : d.ps = [y]) (eb : d.body = [.Return (some (.List es lp)) rp])
    (hl : qs.length ≤ sizeLine) (hg : Gl X f) (hm : X.mg f = some (.ref fa)) (hk : PySem.W.keepIn X.K (.ref fa) = true) (hdb : (f == ("__debug__" : Str)) = false) (hN : X.N[i]? = some x) (hv : Vis X.env.scope x) (hd : (x == ("__debug__" : Str)) = false) (hcd : (x == ("__classdict__" : Str)) = false)
    (hP : ∀ (s : Shared) (H : Hp), Pairs (L2H.cxH (L2N.CX X.prog X.w) X.prog X.w X.K X.mg X.base d.N d.qual d.scope fa d.cdv X.A X.stack s H (fun _ _ _ => False) (a, oe)) w 0 a dd es qs) :
    PE X (.Call (.Name f p) [.Name x p1] [] pos) (tX w i a dd (RD w) (alloc (.lst (qs.map pairD)))) := by
  refine ⟨fun pins s σ H Q I ⟨c, e, hs, hσ, hx, hq⟩ => ?_⟩
  subst e
  have t1 : starEach [.Name x p1] X.env = (false, eval (.Name x p1) X.env) :: starEach [] X.env := by rfl
  refine wpAny_Call_Name_kw (ld_glob I hg hm ?_ hdb)
  refine PySem.W.callWith_K (h₀ := X.base) I.ok.mod.kin hk (thn ((pa_cons (pe_var (pos := p1) hN hv hd hcd) pa_nil t1).run pos pins s σ c.H (fun vs H1 => vs = [.ref a] ∧ H1 = c.H) I ⟨.ref a, hσ, rfl, rfl⟩) fun us s1 ⟨vs, H1, I1, r1, ev, eh⟩ => ⟨I1.kIn, ?_⟩) t1 (by rfl)
  subst ev eh
  have P1 := I1.pin (a, oe) (List.mem_append_left _ hp)
  have bt := bi s1 us I1.kIn (by rw [List.append_nil, ← r1.length, ep]; rfl)
  rw [List.append_nil] at bt
  show wpAny _ _ (call (.ref fa) us) _ _ _
  refine wpAny_call (codeAny_mono (run_hot (CX0 := L2N.CX X.prog X.w) (E := fun _ _ _ => False) (q := (a, oe)) (Q := Q) lk cd S dep ⟨P1.1, P1.2.1, fun hm => (List.mem_cons.mp (I1.stkSub a hm)).elim P1.2.2.1 P1.2.2.2.1, P1.2.2.2.2⟩ I1.env0 bt r1 (by rw [ep]; rfl)
    (by rw [eb]; exact pss_one (ps_ret (me_pairs (hP s1 c.H) hl))) ?_) fun r s' h => ?_)
  · have hN0 : d.N.take 1 = [y] := by
      have := S.pre
      rw [ep] at this
      exact this
    exact ⟨c, rfl, hs, start_get rfl, hx, hq⟩
  · cases r with
    | error e =>
      obtain ⟨_, _, _, _, _, _, _, _, _, _, _, _, z⟩ := h
      exact z.elim
    | ok fl =>
      cases fl with
      | ret u => exact I1.after h
      | next => exact h.elim
      | brk => exact h.elim
      | cont => exact h.elim
end
end MI

set_option Elab.async false
set_option linter.all false
set_option maxRecDepth 100000
set_option maxHeartbeats 8000000
/-! MINI, part 41: the walk over these classes. -/
namespace MI
open PySem PySem.Spec PyProof.Rows L2
/-- the exception stands in its slot, its dict is tracked -/
abbrev ExZ (i : Nat) (a dd : Addr) : L2.St → Hp → Prop := fun σ H => σ[i]? = some (some (.ref a)) ∧ ∃ fs, H dd = some (.xd fs)
theorem mi_classes {X : Cx} {w : Vw} {W : WX} {i : Nat} {a dd : Addr} {tg e : Expr} {ds : List D} (hK : w.K = X.K) (ha : PE X e (tX w i a dd (RD w) (alloc (.lst ds)))) :
    PIP CnHot X tg e fun σ H R => ExZ i a dd σ H ∧ tM X w W (RI w) (fun _ => bnd (alloc (.lst ds)) srcOf) σ H R := by
  refine ⟨fun pins s σ H R I ⟨⟨hσ, hx⟩, fr, c, e, hf, hs, hp⟩ => ?_⟩
  subst e
  have hq : Post w (RI w) c (srcOf (.loc c.st.length) (c.st ++ [.lst ds])) R (WE W σ) := hp
  have e2 : (c.st ++ [Ob.lst ds])[c.st.length]? = some (.lst ds) := by simp
  unfold srcOf at hq
  simp only [e2] at hq
  refine thn (ha.run pins s σ c.H (fun v H' => ∃ p xs, v = .ref p ∧ SqL X.K H' p xs ∧ R (Itl X.K p) H') I ⟨c, rfl, hs, hσ, hx, fun φ' H' v mo s' r => ?_⟩) fun v s1 ⟨x, H1, I1, r1, p, xs, ex, hx, q⟩ => ?_
  · obtain ⟨p, rfl, h1⟩ := rep_loc.mp r
    obtain ⟨xs, h2, h3⟩ := s'.ob _ _ p e2 h1
    exact ⟨p, xs, rfl, SqL.of h2, hq φ' H' _ mo s' (hK ▸ ri_list h1)⟩
  · subst ex
    cases r1
    obtain ⟨its, rv, pl, hz⟩ := I1.list hx
    refine wpAny_pyIter_list pl.isList ?_
    refine ⟨s1.heap.objs.size, [s1.heap.objs.size], _, _, H1, rfl, I1.kept (t' := s1.toks) fun b o e => Heap.get?_push_of_some _ e, turn_hot p _, ⟨_, Heap.get?_push_size _ rfl, rfl, rfl⟩, fun b hb => ?_, q⟩
    have e : b = s1.heap.objs.size := List.mem_singleton.mp hb
    subst e
    exact I1.fpOk (Nat.le_refl _) (I1.hok.fresh (Nat.le_refl _))
end MI

set_option Elab.async false
set_option linter.all false
set_option maxRecDepth 100000
set_option maxHeartbeats 8000000
/-! MINI, part 42: the names of the classes that it is. -/
namespace MI
open PySem PySem.Spec PyProof.Rows L2
abbrev slotM (k : Nat) : Fr → M D := fun fr st => match fr.ρ[k]? with
  | some (some d) => .ok d st
  | _ => .no
/-- the j-th of the pair -/
abbrev atM (k : Nat) (j : Int) : Fr → M D := fun fr => bnd (slotM k fr) fun x => bnd (ret (.int j)) fun y => idxD x y
theorem me_at {X : Cx} {w : Vw} {W : WX} {k : Nat} {x : Str} {j : Int} {ej : Expr} {p1 pos : Pos} (hK : w.K = X.K) (hN : X.N[k]? = some x) (hv : Vis X.env.scope x) (hd : (x == ("__debug__" : Str)) = false) (hcd : (x == ("__classdict__" : Str)) = false) (he : PE X ej (tC (.int j))) (hs : PlainIx ej) :
    PE X (.Subscript (.Name x p1) ej pos) (tM X w W (RD w) (atM k j)) := me_idx hK (me_var hN hv hd hcd) (me_const he fun _ _ => rep_int.mpr rfl) hs
theorem names_turn {k : Nat} {ρ : List (Option D)} {q : Str × Bool} {st : Store} (hk : k < ρ.length) : lcTurn (.nm k) ρ (atM k 1) (atM k 0) (pairD q) st = .ok (if q.2 = true then some (.str q.1) else none) st := by
  obtain ⟨z, b⟩ := q
  have e : bindT (.nm k) (pairD (z, b)) { ρ := wipeL ρ [k], cp := [] } st = .ok { ρ := (wipeL ρ [k]).set k (some (pairD (z, b))), cp := [] } st := by rfl
  have g : ((wipeL ρ [k]).set k (some (pairD (z, b))))[k]? = some (some (pairD (z, b))) := List.getElem?_set_self (by rw [wipeL_len]; exact hk)
  unfold lcTurn
  show bnd (bindT (.nm k) (pairD (z, b)) { ρ := wipeL ρ [k], cp := [] }) _ st = _
  unfold bnd
  simp only [e]
  cases b <;> (simp [g, atM, slotM, bnd, ret, idxD, tst, pairD]; rfl)
end MI

set_option Elab.async false
set_option linter.all false
set_option maxRecDepth 100000
set_option maxHeartbeats 8000000
/-! MINI, part 43: all turns over the pairs. -/
namespace MI
open PySem PySem.Spec PyProof.Rows L2
/-- the names of the classes that it is -/
abbrev yesN (qs : List (Str × Bool)) : List D := (qs.filter (·.2)).map fun q => .str q.1
theorem names_go {k : Nat} {ρ : List (Option D)} {ck : M Unit} {st : Store} (hk : k < ρ.length) (hc : ck st = .ok () st) : ∀ qs : List (Str × Bool), lcGo (lcTurn (.nm k) ρ (atM k 1) (atM k 0)) ck (qs.map pairD) st = .ok (yesN qs) st
  | [] => by
    show bnd ck (fun _ => ret []) st = _
    unfold bnd
    rw [hc]
    rfl
  | q :: qs => by
    have ih := names_go (k := k) (ρ := ρ) (st := st) hk hc qs
    have t := names_turn (k := k) (ρ := ρ) (q := q) (st := st) hk
    rw [List.map_cons]
    unfold lcGo bnd
    rw [hc]
    simp only [t, ih]
    obtain ⟨z, b⟩ := q
    cases b <;> rfl
end MI

set_option Elab.async false
set_option linter.all false
set_option maxRecDepth 100000
set_option maxHeartbeats 8000000
/-! MINI, part 44: the comprehension over the pairs. -/
namespace MI
open PySem PySem.Spec PyProof.Rows L2
section
variable {X : Cx} {w : Vw} {W : WX} {L : Addr} {i k : Nat} {a dd : Addr} {qs : List (Str × Bool)} {ln : Str} {e e0 e1 : Expr} {scope : Scope} {pl q1 q2 qp1 qp2 pos : Pos}
theorem lcp_names (hot : L2H.HotC X) (nd : X.N.Nodup) (thr : Thr X L W) (kc : Kc X w) (hK : w.K = X.K) (ha : PE X e (tX w i a dd (RD w) (alloc (.lst (qs.map pairD))))) (ok : BlkOk X.N X.env.scope scope [(ln, k)]) (hN : X.N[k]? = some ln)
    (hs : (relS scope X.env.scope).names.lookup ln = some .local) (hd : (ln == ("__debug__" : Str)) = false) (hcd : (ln == ("__classdict__" : Str)) = false) (h0 : ∀ Y : Cx, PE Y e0 (tC (.int 0))) (h1 : ∀ Y : Cx, PE Y e1 (tC (.int 1))) (p0 : PlainIx e0) (p1 : PlainIx e1)
    (st : ∀ x, foldedSetIterable e X.env x = pure x) (tr : ∀ (env : Env) whole, isTrue (.Subscript (.Name ln q2) e1 qp2) env whole = (do let v ← whole; standAt (Expr.Subscript (.Name ln q2) e1 qp2).pos; holding [v] (truthy v))) :
    LcP CnHot (ExZ i a dd) X w W L (.Name ln pl) e (.Subscript (.Name ln q1) e0 qp1) [.Subscript (.Name ln q2) e1 qp2] scope [(ln, k)] (fun _ => bnd (alloc (.lst (qs.map pairD))) srcOf) (.nm k) (atM k 1) (atM k 0) where
  cn := fun pins σ H s ce fp I f => hot_blk hot I f
  nd := nd
  thr := thr
  kc := kc
  it := mi_classes hK ha
  ok := ok
  sl := rfl
  blk := fun Xb wb Wb r => by
    have n : Xb.N[k]? = some ln := by rw [r.N]; exact hN
    have s : Xb.env.scope.names.lookup ln = some .local := by rw [r.sc]; exact hs
    have kk : wb.K = Xb.K := by rw [r.K, ← hK, r.same.K]
    exact ⟨mg_nm (by rw [r.N]; exact nd) n (.inl s) (.inr s), pts_one (mt_of (me_at kk n (.inl s) hd hcd (h1 Xb) p1) (tr Xb.env)), me_at kk n (.inl s) hd hcd (h0 Xb) p0⟩
  set := st
end
end MI

set_option Elab.async false
set_option linter.all false
set_option maxRecDepth 100000
set_option maxHeartbeats 8000000
/-! MINI, part 45: a written text joins what a comprehension gives. -/
namespace MI
open PySem PySem.Spec PyProof.Rows L2
section
variable {X : Cx} {w : Vw} {W : WX} {Z : L2.St → Hp → Prop}
theorem me_joinZ {o e : Expr} {sep : Str} {apos pos : Pos} {m : Fr → M D} (hK : w.K = X.K) (Y : MSyn X o "join" apos [e] pos) (ho : PE X o (tC (.str sep))) (ha : PE X e fun σ H Q => Z σ H ∧ tM X w W (RD w) m σ H Q) :
    PE X (.Call (.Attribute o "join" apos) [e] [] pos) fun σ H Q => Z σ H ∧ tM X w W (RD w) (fun fr => bnd (m fr) fun y => strMD .join (.str sep) [y]) σ H Q := by
  refine ⟨fun pins s σ H Q I ⟨hz, fr, c, e, hf, hs, hp⟩ => ?_⟩
  subst e
  obtain ⟨s1, s2⟩ := star_plain (pos := pos) (env := X.env) Y.star
  obtain ⟨id, b1, b2, b3, b4⟩ := (sm_f (X := X) (w := w) (m := "join") (k := .join) hK (by first | rfl | (unfold smOf; rfl) | (simp [smOf]))).f
  refine (pe_bm b1 b2 b3 b4 ho (pa_cons ha pa_nil s1) Y.base (few_ok Y.star Y.few) Y.line s1 s2).run pins s σ c.H Q I ?_
  refine ⟨rfl, hz, tM_of (R := RD w) hf hs (Post.imp (hp.bn (R' := RD w)) fun v H2 ⟨y, c2, e2, m2, s2', r2, hp3⟩ => ?_)⟩
  subst e2
  exact ⟨.str sep, [y], c2, _, rfl, s2', rep_str.mpr rfl, .cons r2 RepL.nil, hp3⟩
end
end MI

set_option Elab.async false
set_option linter.all false
set_option maxRecDepth 100000
set_option maxHeartbeats 8000000
/-! MINI, part 46: the deed called; what the trial comes to. -/
namespace MI
open PySem PySem.Spec PyProof.Rows L2
/-- the closure in a slot called -/
noncomputable def deedM (G : GP) (n i : Nat) : Fr → M D := fun fr st => match fr.ρ[i]? with
  | some (some (.clo k ls)) => (calls G n).2 k ls [] st
  | _ => .no
section
variable {G : GP} {B : Bas} {n : Nat} {X : Cx} {w : Vw} {W : WX} {L0 : Addr}
theorem pe_deed (hS : HS G B n) (hB : B.w.lamOk = LamOk G) (g : Good B (n + 1) X w W L0) {i : Nat} {x : Str} {p pos : Pos} (hN : X.N[i]? = some x) (hv : Vis X.env.scope x) (hd : (x == ("__debug__" : Str)) = false) (hcd : (x == ("__classdict__" : Str)) = false) :
    PE X (.Call (.Name x p) [] [] pos) (tM X w W (RD w) (deedM G (n + 1) i)) := by
  refine ⟨fun pins s σ H Q I ⟨fr, c, e, hf, hs, hp⟩ => ?_⟩
  subst e
  unfold PostM deedM at hp
  cases e1 : fr.ρ[i]? with
  | none => simp only [e1] at hp; exact hp.elim
  | some o =>
    cases o with
    | none => simp only [e1] at hp; exact hp.elim
    | some d =>
      cases d with
      | clo k ls =>
        simp only [e1] at hp
        obtain ⟨v, h1, h2⟩ := hf.val i _ e1
        have hp2 : Post (inner X w s) (RD (inner X w s)) c ((calls G (n + 1)).2 k ls [] c.st) Q (WE W σ) := Post.vw inner_same (fun c h => sr_out h) (fun φ H d v r => Rep.vw inner_same.symm r) hp
        refine wpAny_Call_Name_kw (thn ((pe_var (pos := p) hN hv hd hcd).run pins s σ c.H (fun v1 H1 => v1 = v ∧ H1 = c.H) I ⟨v, h1, rfl, rfl⟩) fun u s1 ⟨v1, H1, I1, r1, q1⟩ => ?_)
        obtain ⟨rfl, rfl⟩ := q1
        have hs1 := sr_in I1 hf hs
        have hp3 : Post (inner X w s1) (RD (inner X w s1)) c ((calls G (n + 1)).2 k ls [] c.st) Q (WE W σ) := Post.vw inner_same (fun c h => sr_out h) (fun φ H d v r => Rep.vw inner_same.symm r) hp
        obtain ⟨a, rfl, hfun, hrun⟩ := clo_run (A := X.A) hS hB g I1 I1.env0 (g.room.mono (by omega)) hs1 (h2.vw inner_same) r1 hp3
        refine PySem.W.callWith_F0 hfun ?_
        refine wpAny_call (codeAny_mono hrun fun r s' hq => ?_)
        cases r with
        | error e => exact g.thr.call I1 (fun _ _ _ h => h) hq
        | ok fl =>
          cases fl with
          | ret u => exact I1.after hq
          | next => exact hq.elim
          | brk => exact hq.elim
          | cont => exact hq.elim
      | _ => simp only [e1] at hp; exact hp.elim
/-- the pair that a deed that is heard gives -/
def toldQ (Q : VK) : VK := fun v H => ∀ p, H p = none → Q (.ref p) (upd H p (.tup [.str "told", v]))
/-- the trial's own reading -/
def tTold (G : GP) (n i : Nat) (X : Cx) (w : Vw) (W : WX) : TS := fun D σ H => tM X w W (RD w) (deedM G n i) σ H (toldQ D.rt)
theorem ps_told (hS : HS G B n) (hB : B.w.lamOk = LamOk G) (g : Good B (n + 1) X w W L0) {i j k : Nat} {x : Str} {p p1 pos p2 p3 : Pos} (hN : X.N[i]? = some x) (hv : Vis X.env.scope x) (hd : (x == ("__debug__" : Str)) = false) (hcd : (x == ("__classdict__" : Str)) = false) :
    PSs X [.Return (some (.Tuple [.Constant (.str "told") j p1, .Call (.Name x p) [] [] pos] k p2)) p3] (tTold G (n + 1) i X w W) := by
  refine PSs.imp (pss_one (ps_ret (pe_tup (pa_cons pe_str (pa_cons (pe_deed hS hB g hN hv hd hcd) pa_nil))))) fun D σ H ⟨fr, c, e, hf, hs, hp⟩ => ?_
  subst e
  exact ⟨fr, c, rfl, hf, hs, Post.imp hp fun v H1 q => ⟨by show 2 ≤ sizeLine; decide, q⟩⟩
end
end MI

set_option Elab.async false
set_option linter.all false
set_option maxRecDepth 100000
set_option maxHeartbeats 8000000
/-! MINI, part 47: the suite of the trial. -/
namespace MI
open PySem PySem.Spec PyProof.Rows L2
theorem bnd_ok {α β : Type} {m : M α} {f : α → M β} {st st' : Store} {a : α} (h : m st = .ok a st') : bnd m f st = f a st' := by
  unfold bnd
  rw [h]
/-- what the suite's comprehension comes to -/
theorem lcM_names {k : Nat} {qs : List (Str × Bool)} {fr : Fr} {st : Store} (hk : k < fr.ρ.length) (hl : qs.length ≤ sizeLine) :
    lcM (fun _ => bnd (alloc (.lst (qs.map pairD))) srcOf) (.nm k) (atM k 1) (atM k 0) fr st = .ok (.loc (st.length + 1)) (st ++ [.lst (qs.map pairD), .lst (yesN qs)]) := by
  have e2 : (st ++ [Ob.lst (qs.map pairD)])[st.length]? = some (.lst (qs.map pairD)) := by simp
  have hc : chk [(st.length, qs.map pairD)] (st ++ [Ob.lst (qs.map pairD)]) = .ok () (st ++ [Ob.lst (qs.map pairD)]) := by
    unfold chk
    rw [if_pos (.inl e2)]
    rfl
  have hg : guard (decide ((qs.map pairD).length ≤ sizeLine)) (st ++ [Ob.lst (qs.map pairD)]) = .ok () (st ++ [Ob.lst (qs.map pairD)]) := by
    rw [List.length_map, decide_eq_true hl]
    rfl
  have key := names_go (k := k) (ρ := fr.ρ) (st := st ++ [Ob.lst (qs.map pairD)]) hk hc qs
  unfold lcM bnd alloc srcOf
  simp only [e2, hg, key]
  simp
section
variable {Y : Cx} {w : Vw} {a : Addr} {oe : Obj} {cls : Value} {d : Option Addr} {pn : List (Addr × Obj)}
/-- the suite's reading: the exception x, told at a -/
def tHeard (names : List (Nat × List (Str × Bool))) (w : Vw) (i len : Nat) (a : Addr) (cls : Value) (d : Option Addr) : TS := fun D σ H =>
  ∃ (c : Cf) (x : Ex), c.H = H ∧ SR w c ∧ ExR w c.φ H x cls d ∧ σ[i]? = some (some (.ref a)) ∧ σ.length = len ∧ Post w (RD w) c (heardD names (.ex x c.st)) D.rt (fun _ _ _ => False)
/-- what the suite leans on -/
structure SuiOk (names : List (Nat × List (Str × Bool))) (Y : Cx) (w : Vw) (i k : Nat) (x f ln : Str) (fa : Addr) (dc : FnD) (scope : Scope) (es : List Expr) : Prop where
  top : ∃ e o L, Y.stack = e :: o ∧ e.frame = some L ∧ Y.env.frame = some L
  nd : Y.N.Nodup
  K : w.K = Y.K
  own : w.own = []
  kc : Kc Y w
  dep : Y.A.depth < recursionLimit
  lk : Y.K.lookup fa = some ⟨dc.oc, dc.od, .func dc.fd, dc.osl⟩
  cd : PySem.W.codeIn Y.K dc.cdv dc.qual = true
  S : FnScope dc.N dc.ps dc.scope
  bi : L2.Binds Y.K dc.fd dc.ps []
  ep : ∃ y, dc.ps = [y]
  eb : ∃ lp rp, dc.body = [.Return (some (.List es lp)) rp]
  gf : Gl Y f
  mf : Y.mg f = some (.ref fa)
  kf : PySem.W.keepIn Y.K (.ref fa) = true
  df : (f == ("__debug__" : Str)) = false
  ix : Y.N[i]? = some x
  vx : Vis Y.env.scope x
  dx : (x == ("__debug__" : Str)) = false
  cx : (x == ("__classdict__" : Str)) = false
  blk : BlkOk Y.N Y.env.scope scope [(ln, k)]
  ik : Y.N[k]? = some ln
  rl : (relS scope Y.env.scope).names.lookup ln = some .local
  dl : (ln == ("__debug__" : Str)) = false
  cl : (ln == ("__classdict__" : Str)) = false
  xf : ∀ c qs, names.lookup c = some qs → XfC Y.K (w.xa c) ∧ PySem.W.findIn Y.K (.ref (w.xa c)) "what" = some none ∧ qs.length ≤ sizeLine
  prs : ∀ c qs, names.lookup c = some qs → ∀ (a dd : Addr) (oe : Obj) (A : Around) (out : List Env) (s : Shared) (H : Hp), Zc (.ref (w.xa c)) (some dd) oe → (∃ vs, oe.data = .fields vs) → Pairs (L2H.cxH (L2N.CX Y.prog Y.w) Y.prog Y.w Y.K Y.mg Y.base dc.N dc.qual dc.scope fa dc.cdv A out s H (fun _ _ _ => False) (a, oe)) w 0 a dd es qs
theorem ps_suite {names : List (Nat × List (Str × Bool))} {i k j1 j2 j3 kt : Nat} {x f ln : Str} {fa : Addr} {dc : FnD} {scope : Scope} {es : List Expr} {p1 p2 p3 p4 p5 p6 p7 p8 p9 p10 p11 p12 p13 p14 p15 p16 p17 p18 : Pos} (O : SuiOk names Y w i k x f ln fa dc scope es)
    (hz : L2N.Zn cls d oe) (hfl : ∃ vs, oe.data = .fields vs) (hline : (p2.endLine == p14.line) = true) :
    PSs (Y.suite a ((a, oe) :: pn)) [.Return (some (.Tuple [.Call (.Attribute (.Constant (.str " ") j1 p1) "join" p2) [.ListComp (.Subscript (.Name ln p3) (.Constant (.int 0) j2 p4) p5) [⟨.Name ln p6, .Call (.Name f p7) [.Name x p8] [] p9, [.Subscript (.Name ln p10) (.Constant (.int 1) j3 p11) p12], 0⟩] scope p13] [] p14, .Attribute (.Name x p15) "what" p16] kt p17)) p18]
      (tHeard names w i Y.N.length a cls d) := by
  refine ⟨fun pins s σ H DD I ⟨c, xx, e, hs, hx, hσ, hlen, hp⟩ => ?_⟩
  subst e
  obtain ⟨dd, v, rfl, rfl, hdd, rv⟩ := hx
  unfold heardD at hp
  cases eq : names.lookup xx.cls with
  | none => simp only [eq] at hp; exact hp.elim
  | some qs =>
    simp only [eq] at hp
    obtain ⟨xf, nw, ql⟩ := O.xf _ _ eq
    obtain ⟨e0, o0, L, ht, hL, hL2⟩ := O.top
    obtain ⟨y, ep⟩ := O.ep
    obtain ⟨lp, rp, eb⟩ := O.eb
    have hmem : (a, oe) ∈ (Y.suite a ((a, oe) :: pn)).pn := List.mem_cons_self
    have hot : L2H.HotC (Y.suite a ((a, oe) :: pn)) := by
      obtain ⟨vs, hv⟩ := hfl
      exact ⟨(a, oe), ⟨rfl, vs, hv, hz.2.2 vs hv⟩, hmem⟩
    have pc := pe_classes (X := Y.suite a ((a, oe) :: pn)) (w := w) (i := i) (a := a) (dd := dd) (fa := fa) (oe := oe) (d := dc) (f := f) (x := x) (y := y) (p := p7) (p1 := p8) (pos := p9) (rp := rp) (lp := lp) (es := es) (qs := qs)
      O.lk O.cd O.S O.bi O.dep hmem ep eb ql O.gf O.mf O.kf O.df O.ix O.vx O.dx O.cx (fun s H => O.prs _ _ eq a dd oe _ _ s H hz.zc hfl)
    have P := lcp_names (X := Y.suite a ((a, oe) :: pn)) (W := fun _ _ _ _ => False) (L := L) (i := i) (k := k) (pl := p6) (q1 := p3) (q2 := p10) (qp1 := p5) (qp2 := p12) hot O.nd ⟨⟨e0, o0, ht, hL⟩, hL2, fun u s' ⟨_, _, _, _, _, _, _, _, _, A⟩ => A.wi.elim⟩ O.kc O.K pc O.blk O.ik O.rl O.dl O.cl
      (e0 := .Constant (.int 0) j2 p4) (e1 := .Constant (.int 1) j3 p11) (fun _ => pe_int) (fun _ => pe_int) (by intro o i; rfl) (by intro o i; rfl) (fun _ => rfl) (fun env whole => rfl)
    have lc := me_lcZ (pos := p13) P
    have hst : ∀ y ∈ [Expr.ListComp (.Subscript (.Name ln p3) (.Constant (.int 0) j2 p4) p5) [⟨.Name ln p6, .Call (.Name f p7) [.Name x p8] [] p9, [.Subscript (.Name ln p10) (.Constant (.int 1) j3 p11) p12], 0⟩] scope p13], PySem.W.isStarred y = false := fun y hy => by
      rw [List.mem_singleton.mp hy]
      rfl
    have jn := me_joinZ (X := Y.suite a ((a, oe) :: pn)) (sep := " ") (apos := p2) (pos := p14) (o := .Constant (.str " ") j1 p1) O.K ⟨rfl, hline, hst, by show 1 < 29; decide, meth_tree (by rfl) hline hst (by show 1 < 29; decide)⟩ pe_str lc
    have wh := pe_xf (pos := p16) (n := "what") (pn := pn) xf nw hz.zc hfl (pe_var (X := Y.suite a ((a, oe) :: pn)) (pos := p15) O.ix O.vx O.dx O.cx)
    refine (pss_one (ps_ret (pe_tup (pa_cons jn (pa_cons wh pa_nil))))).run pins s σ c.H DD I ?_
    have hk : k < Y.N.length := by
      have := O.ik
      exact (List.getElem?_eq_some_iff.mp this).1
    refine ⟨⟨hσ, _, hdd⟩, ⟨List.replicate Y.N.length none, []⟩, c, rfl, ?_, hs, ?_⟩
    · refine ⟨by simp [hlen], fun i d e => ?_, fun i l e => (by cases e), fun l hl => ?_⟩
      · have e : (List.replicate Y.N.length (none : Option D))[i]? = some (some d) := e
        rw [List.getElem?_replicate] at e
        split at e <;> cases e
      · rw [O.own] at hl
        cases hl
    · unfold PostM
      have e1 := lcM_names (k := k) (qs := qs) (fr := ⟨List.replicate Y.N.length none, []⟩) (st := c.st) (by simpa using hk) ql
      show Post w (RD w) c (bnd (lcM (fun _ => bnd (alloc (.lst (qs.map pairD))) srcOf) (.nm k) (atM k 1) (atM k 0) ⟨List.replicate Y.N.length none, []⟩) (fun y => strMD .join (.str " ") [y]) c.st) _ _
      rw [bnd_ok e1]
      show Post w (RD w) c (strM .join " " [.loc (c.st.length + 1)] (c.st ++ [.lst (qs.map pairD), .lst (yesN qs)])) _ _
      cases e3 : strM .join " " [.loc (c.st.length + 1)] (c.st ++ [.lst (qs.map pairD), .lst (yesN qs)]) with
      | no => rw [e3] at hp; exact hp.elim
      | ex x st => rw [e3] at hp; exact hp.elim
      | ok z st =>
        rw [e3] at hp
        refine fun φ' H' v' mo s' r' => ⟨_, hσ, rfl, rfl, dd, _, v, rfl, mo.imm dd _ hdd rfl, rfl, by show 2 ≤ sizeLine; decide, fun p hpn => ?_⟩
        have m2 : Mono [] ⟨φ', H', st⟩ ⟨φ', upd H' p (.tup [v', v]), st⟩ := Mono.fresh hpn
        exact hp φ' _ (.ref p) (mo.trans m2) (s'.fresh hpn) (rep_tup.mpr ⟨p, _, rfl, SqT.of upd_same, .cons (r'.mono m2) (.cons (rv.mono (mo.trans m2)) RepL.nil)⟩)
end
end MI

set_option Elab.async false
set_option linter.all false
set_option maxRecDepth 100000
set_option maxHeartbeats 8000000
/-! MINI, part 48: the def that hears a deed. -/
namespace MI
open PySem PySem.Spec PyProof.Rows L2
/-- its text -/
def HdB (x0 x1 f ln rf : Str) (scope : Scope) (body : List Stmt) : Prop :=
  ∃ (j0 kt0 j1 j2 j3 kt : Nat) (q0 q1 q2 q3 q4 q5 q6 q7 p1 p2 p3 p4 p5 p6 p7 p8 p9 p10 p11 p12 p13 p14 p15 p16 p17 p18 : Pos),
    body = [.Try [.Return (some (.Tuple [.Constant (.str "told") j0 q0, .Call (.Name x0 q1) [] [] q2] kt0 q3)) q4]
      [.ExceptHandler (some (.Name rf q5)) (some x1) [.Return (some (.Tuple [.Call (.Attribute (.Constant (.str " ") j1 p1) "join" p2) [.ListComp (.Subscript (.Name ln p3) (.Constant (.int 0) j2 p4) p5) [⟨.Name ln p6, .Call (.Name f p7) [.Name x1 p8] [] p9, [.Subscript (.Name ln p10) (.Constant (.int 1) j3 p11) p12], 0⟩] scope p13] [] p14, .Attribute (.Name x1 p15) "what" p16] kt p17)) p18] q6] [] [] q7] ∧ (p2.endLine == p14.line) = true
structure HdOk (B : Bas) (f : Nat) (names : List (Nat × List (Str × Bool))) (dh dc : FnD) (fa RA : Addr) (x0 x1 fc ln rf : Str) (scope : Scope) (es : List Expr) : Prop where
  hK : B.w.K = B.K
  lk : B.K.lookup (B.w.fa f) = some ⟨dh.oc, dh.od, .func dh.fd, dh.osl⟩
  cd : PySem.W.codeIn B.K dh.cdv dh.qual = true
  sc : FnScope dh.N dh.ps dh.scope
  bi : L2.Binds B.K dh.fd dh.ps []
  eN : dh.N = [x0, x1, ln]
  ep : dh.ps = [x0]
  bd : HdB x0 x1 fc ln rf scope dh.body
  v0 : dh.scope.names.lookup x0 = some .local
  v1 : dh.scope.names.lookup x1 = some .local
  n0 : nmB x0 = true
  n1 : nmB x1 = true
  nl : nmB ln = true
  gr : dh.scope.names.lookup rf = some .globalImplicit
  mr : B.mg rf = some (.ref RA)
  nr : nmB rf = true
  gc : dh.scope.names.lookup fc = some .globalImplicit
  mc : B.mg fc = some (.ref fa)
  nc : nmB fc = true
  kc : PySem.W.keepIn B.K (.ref fa) = true
  lc : B.K.lookup fa = some ⟨dc.oc, dc.od, .func dc.fd, dc.osl⟩
  cc : PySem.W.codeIn B.K dc.cdv dc.qual = true
  sC : FnScope dc.N dc.ps dc.scope
  bC : L2.Binds B.K dc.fd dc.ps []
  eC : ∃ y, dc.ps = [y]
  bo : ∃ lp rp, dc.body = [.Return (some (.List es lp)) rp]
  blk : BlkOk dh.N dh.scope scope [(ln, 2)]
  rl : (relS scope dh.scope).names.lookup ln = some .local
  xf : ∀ c qs, names.lookup c = some qs → XfC B.K (B.w.xa c) ∧ PySem.W.findIn B.K (.ref (B.w.xa c)) "what" = some none ∧ qs.length ≤ sizeLine ∧ PySem.W.exmOne B.K (.ref (B.w.xa c)) (.ref RA) = some true
  prs : ∀ c qs, names.lookup c = some qs → ∀ (CX0 : CXT) (w : Vw) (a dd : Addr) (oe : Obj) (A : Around) (out : List Env) (s : Shared) (H : Hp), Zc (.ref (B.w.xa c)) (some dd) oe → (∃ vs, oe.data = .fields vs) → Pairs (L2H.cxH CX0 B.prog B.wd B.K B.mg B.base dc.N dc.qual dc.scope fa dc.cdv A out s H (fun _ _ _ => False) (a, oe)) w 0 a dd es qs
theorem post_told {w wY : Vw} {c : Cf} {names : List (Nat × List (Str × Bool))} {r : Res D} {Q : VK} {E E' : XK} (hs : Same w wY) (ho : ∀ c, SR wY c → SR w c) (h : Post w (RD w) c (heardD names r) Q E)
    (hx : ∀ x st φ' H' cls da, r = .ex x st → Mono [] c ⟨φ', H', st⟩ → SR wY ⟨φ', H', st⟩ → ExR wY φ' H' x cls da → Post w (RD w) ⟨φ', H', st⟩ (heardD names (.ex x st)) Q E → E' cls da H') : Post wY (RD wY) c r (toldQ Q) E' := by
  cases r with
  | no => exact h.elim
  | ok d st =>
    intro φ' H' v mo s' r' p hp
    have m2 : Mono [] ⟨φ', H', st⟩ ⟨φ', upd H' p (.tup [.str "told", v]), st⟩ := Mono.fresh hp
    exact h φ' _ (.ref p) (mo.trans m2) (ho _ (s'.fresh hp)) (rep_tup.mpr ⟨p, _, rfl, SqT.of upd_same, .cons (rep_str.mpr rfl) (.cons ((Rep.vw hs.symm r').mono m2) RepL.nil)⟩)
  | ex x st =>
    intro φ' H' cls da mo s' r'
    exact hx x st φ' H' cls da rfl mo s' r' (Post.later mo h)
section
variable {G : GP} {B : Bas} {f : Nat} {names : List (Nat × List (Str × Bool))} {dh dc : FnD} {fa RA : Addr} {x0 x1 fc ln rf : Str} {scope : Scope} {es : List Expr}
theorem hd_ok (O : HdOk B f names dh dc fa RA x0 x1 fc ln rf scope es) (hB : B.w.lamOk = LamOk G) {p : Str × Option Str} : FunOk G B f ⟨p, .heard names⟩ := by
  show ∀ n, (∀ m, m ≤ n → HS G B m) → ∀ X w W L, Good B (n + 1) X w W L → RunOk X w W (heardM G n names) (.ref (w.fa f))
  intro n hA X w W L g pins s σ vs us c ds Q I r hs hr hf hp
  obtain ⟨fr0, hf⟩ := hf
  have hp0 : ∃ k ls, ds = [.clo k ls] := by
    unfold PostM heardM at hp
    split at hp
    · exact ⟨_, _, rfl⟩
    · exact hp.elim
  obtain ⟨k, ls, rfl⟩ := hp0
  have hp : Post w (RD w) c (heardD names ((calls G n).2 k ls [] c.st)) Q (WE W σ) := hp
  cases n with
  | zero => exact hp.elim
  | succ m =>
    obtain ⟨v, r0, ev, rv, rn⟩ := hr.cons_inv
    have := rn.nil_inv
    subst this ev
    have hul : us.length = dh.ps.length := by rw [← r.length, O.ep]; rfl
    have efa : w.fa f = B.w.fa f := by rw [g.view.fa]
    have lk := O.lk
    rw [← efa, ← g.K] at lk
    have cd := O.cd
    rw [← g.K] at cd
    have bi := O.bi
    rw [← g.K] at bi
    have bt := bi s us I.kIn (by rw [List.append_nil]; exact hul)
    rw [List.append_nil] at bt
    have hl3 : dh.N.length = 3 := by rw [O.eN]; rfl
    obtain ⟨d0, c0⟩ := nm_of O.n0
    obtain ⟨d1, c1⟩ := nm_of O.n1
    obtain ⟨dl, cl⟩ := nm_of O.nl
    obtain ⟨dr, _⟩ := nm_of O.nr
    obtain ⟨dc', _⟩ := nm_of O.nc
    refine wpAny_call (codeAny_mono (LamX.run_ofS (CX := L2N.CX X.prog X.w) (E := WE W σ) (Q := Q) (N := dh.N) (ps := dh.ps) lk cd O.sc (k := 2 * m + 5) g.room I.env0 bt r (by rw [O.ep]; rfl) fun hroom => ?_) fun r s' hq => ?_)
    · have view : Same w (inner X w s) := inner_same
      have kcY : Kc (cxOf (L2N.CX X.prog X.w) X.prog X.w X.K X.mg X.base dh.N dh.qual dh.scope (w.fa f) dh.cdv X.A X.stack s c.H (WE W σ)) (inner X w s) := fun l a o hk => by
        obtain ⟨k1, k2, k3, _⟩ := kc_in g.kc I hk
        exact ⟨k1, k2, k3, fun z => by cases z⟩
      have gY : ∀ (W' : WX) (pn : List (Addr × Obj)) (xe : Value → Shared → Prop), L2N.Takes ((cxOf (L2N.CX X.prog X.w) X.prog X.w X.K X.mg X.base dh.N dh.qual dh.scope (w.fa f) dh.cdv X.A X.stack s c.H (WE W σ)).tr pn xe) W' →
          Good B (m + 1) ((cxOf (L2N.CX X.prog X.w) X.prog X.w X.K X.mg X.base dh.N dh.qual dh.scope (w.fa f) dh.cdv X.A X.stack s c.H (WE W σ)).tr pn xe) (inner X w s) W' (cxOf (L2N.CX X.prog X.w) X.prog X.w X.K X.mg X.base dh.N dh.qual dh.scope (w.fa f) dh.cdv X.A X.stack s c.H (WE W σ)).env.locals := fun W' pn xe tk =>
        ⟨g.prog, g.wd, g.K, g.mg, g.base, g.view.trans view, rfl, O.sc.nd, hroom.mono (by omega), thr_of rfl rfl tk, kcY⟩
      obtain ⟨j0, kt0, j1, j2, j3, kt, q0, q1, q2, q3, q4, q5, q6, q7, p1, p2, p3, p4, p5, p6, p7, p8, p9, p10, p11, p12, p13, p14, p15, p16, p17, p18, eb, hline⟩ := O.bd
      have SO : SuiOk names (cxOf (L2N.CX X.prog X.w) X.prog X.w X.K X.mg X.base dh.N dh.qual dh.scope (w.fa f) dh.cdv X.A X.stack s c.H (WE W σ)) (inner X w s) 1 2 x1 fc ln fa dc scope es := by
        refine { top := ⟨_, _, _, rfl, rfl, rfl⟩, nd := O.sc.nd, K := g.view.K.trans (O.hK.trans g.K.symm), own := rfl, kc := kcY, dep := hroom.depth, lk := ?_, cd := ?_, S := O.sC, bi := ?_, ep := O.eC, eb := O.bo, gf := O.gc, mf := ?_, kf := ?_, df := dc', ix := ?_, vx := .inl O.v1, dx := d1, cx := c1, blk := O.blk, ik := ?_, rl := O.rl, dl := dl, cl := cl, xf := fun c qs h => ?_, prs := fun c qs h a dd oe A out s' H hz hfl => ?_ }
        · show X.K.lookup fa = _
          rw [g.K]
          exact O.lc
        · show PySem.W.codeIn X.K _ _ = true
          rw [g.K]
          exact O.cc
        · show L2.Binds X.K _ _ _
          rw [g.K]
          exact O.bC
        · show X.mg fc = _
          rw [g.mg]
          exact O.mc
        · show PySem.W.keepIn X.K _ = true
          rw [g.K]
          exact O.kc
        · show dh.N[1]? = _
          rw [O.eN]
          rfl
        · show dh.N[2]? = _
          rw [O.eN]
          rfl
        · obtain ⟨a1, a2, a3, _⟩ := O.xf c qs h
          show XfC X.K (w.xa c) ∧ PySem.W.findIn X.K (.ref (w.xa c)) "what" = some none ∧ _
          rw [g.K, g.view.xa]
          exact ⟨a1, a2, a3⟩
        · have hz : Zc (.ref (w.xa c)) (some dd) oe := hz
          rw [g.view.xa] at hz
          have := O.prs c qs h (L2N.CX X.prog X.w) (inner X w s) a dd oe A out s' H hz hfl
          show Pairs (L2H.cxH (L2N.CX X.prog X.w) X.prog X.w X.K X.mg X.base dc.N dc.qual dc.scope fa dc.cdv A out s' H (fun _ _ _ => False) (a, oe)) (inner X w s) 0 a dd es qs
          rw [← g.prog, ← g.wd, ← g.K, ← g.mg, ← g.base] at this
          exact this
      have mr := O.mr
      rw [← g.mg] at mr
      have i0 : dh.N[0]? = some x0 := by rw [O.eN]; rfl
      have i1 : dh.N[1]? = some x1 := by rw [O.eN]; rfl
      have hps := pss_one (L2N.ps_try_as (X := (cxOf (L2N.CX X.prog X.w) X.prog X.w X.K X.mg X.base dh.N dh.qual dh.scope (w.fa f) dh.cdv X.A X.stack s c.H (WE W σ))) (i := 1) (x := rf) (n := x1) (c := .ref RA) (np := q5) (pos := q7) (pos' := q6)
        (tb := fun W' => tTold G (m + 1) 0 (cxOf (L2N.CX X.prog X.w) X.prog X.w X.K X.mg X.base dh.N dh.qual dh.scope (w.fa f) dh.cdv X.A X.stack s c.H (WE W σ)) (inner X w s) W') (ts := tHeard names (inner X w s) 1 dh.N.length) (Wout := fun cls da _ H => WE W σ cls da H)
        rfl rfl O.sc.nd i1 O.v1 ⟨O.gr, dr, .inl mr⟩ (L2N.takes_of (E := WE W σ) rfl rfl rfl rfl)
        (fun W' pn xe tk _ => PSs.imp (ps_told (j := j0) (k := kt0) (p := q1) (p1 := q0) (pos := q2) (p2 := q3) (p3 := q4) (hA m (Nat.le_succ m)) hB (gY W' pn xe tk) (i := 0) i0 (.inl O.v0) d0 c0) fun D σ H ⟨fr, c, e, hf, hs, hp⟩ => ⟨fr, c, e, ⟨hf.len, hf.val, hf.cp, hf.own⟩, hs, hp⟩)
        (fun a oe cls d pn hz hfl => ps_suite (j1 := j1) (j2 := j2) (j3 := j3) (kt := kt) (p1 := p1) (p2 := p2) (p3 := p3) (p4 := p4) (p5 := p5) (p6 := p6) (p7 := p7) (p8 := p8) (p9 := p9) (p10 := p10) (p11 := p11) (p12 := p12) (p13 := p13) (p14 := p14) (p15 := p15) (p16 := p16) (p17 := p17) (p18 := p18) SO hz hfl hline))
      rw [← eb] at hps
      refine ⟨_, hps, ?_⟩
      have hst : L2.start dh.N [v] = [some v, none, none] := by rw [O.eN]; rfl
      rw [hst]
      refine ⟨⟨[some (.clo k ls), none, none], []⟩, c, rfl, ⟨rfl, fun i d e => ?_, fun i l e => (by cases e), fun l hl => (by cases hl)⟩, sr_in I hf hs, ?_⟩
      · match i, e with
        | 0, e =>
          have : D.clo k ls = d := by simpa using e
          subst this
          exact ⟨v, rfl, rv.vw inner_same⟩
        | 1, e => cases e
        | 2, e => cases e
        | i + 3, e => simp at e
      · show Post (inner X w s) (RD (inner X w s)) c ((calls G (m + 1)).2 k ls [] c.st) (toldQ Q) _
        refine post_told view (fun c h => sr_out h) hp fun x st φ' H' cls da er mo s' hx hq => ?_
        obtain ⟨a1, v1, e1, e2, e3, e4⟩ := hx
        have hn : ∃ qs, names.lookup x.cls = some qs := by
          unfold heardD at hq
          cases q : names.lookup x.cls with
          | none => simp only [q] at hq; exact hq.elim
          | some qs => exact ⟨qs, rfl⟩
        obtain ⟨qs, hn⟩ := hn
        have xf := (O.xf _ _ hn).2.2.2
        rw [← g.view.xa, ← g.K] at xf
        refine ⟨true, by rw [e1]; exact xf, fun _ a na => ?_, fun z => by cases z⟩
        refine ⟨⟨φ', H', st⟩, x, rfl, s', ⟨a1, v1, e1, e2, e3, e4⟩, rfl, by rw [hl3]; rfl, ?_⟩
        refine Post.vw view (fun c h => sr_out h) (fun φ H d v r => Rep.vw inner_same.symm r) ?_
        unfold heardD at hq ⊢
        simp only [hn] at hq ⊢
        cases q : strM .join " " [.loc (st.length + 1)] (st ++ [.lst (qs.map fun q => .tup [.str q.1, .bl q.2]), .lst ((qs.filter (·.2)).map fun q => .str q.1)]) with
        | ok z st' => rw [q] at hq; simp only at hq ⊢; exact hq
        | ex x st' => rw [q] at hq; exact hq.elim
        | no => rw [q] at hq; exact hq.elim
    · cases r with
      | error e => exact g.thr.call I (fun _ _ _ h => h) hq
      | ok fl =>
        cases fl with
        | ret u => exact I.after hq
        | next => exact hq.elim
        | brk => exact hq.elim
        | cont => exact hq.elim
end
end MI

set_option Elab.async false
set_option linter.all false
set_option maxRecDepth 100000
set_option maxHeartbeats 8000000
/-! MINI, part 49: a def of the program's text is a code of the small language. -/
namespace MI
open PySem PySem.Spec PyProof.Rows L2
theorem fm_congr {α β : Type} {f g : α → Option β} : ∀ {l : List α}, (∀ a ∈ l, f a = g a) → l.filterMap f = l.filterMap g
  | [], _ => rfl
  | a :: l, h => by
    rw [List.filterMap_cons, List.filterMap_cons, h a List.mem_cons_self, fm_congr fun b hb => h b (List.mem_cons_of_mem _ hb)]
theorem zip_fm {us : List Value} : ∀ {ps : List Str}, ps.Nodup → us.length = ps.length → ps.filterMap (fun n => ((ps.zip us).lookup n).map (n, ·)) = ps.zip us ∧ ps.filter (fun n => ((ps.zip us).lookup n).isNone) = [] := by
  intro ps nd hl
  have get : ∀ n ∈ ps, ∃ u, (ps.zip us).lookup n = some u := fun n hn => by
    obtain ⟨i, hi⟩ := List.getElem?_of_mem hn
    obtain ⟨c, _, h⟩ := zip_at nd hl.symm hi
    exact ⟨c, h⟩
  refine ⟨?_, List.filter_eq_nil_iff.mpr fun n hn => ?_⟩
  · clear get
    induction us generalizing ps with
    | nil =>
      cases ps with
      | nil => rfl
      | cons a r => cases hl
    | cons u us ih =>
      cases ps with
      | nil => cases hl
      | cons a r =>
        have nd2 := List.nodup_cons.mp nd
        have e := ih nd2.2 (by simpa using hl)
        rw [List.zip_cons_cons, List.filterMap_cons]
        have e0 : (((a, u) :: r.zip us).lookup a).map (a, ·) = some (a, u) := by simp [List.lookup_cons]
        rw [e0]
        simp only
        congr 1
        refine Eq.trans ?_ e
        refine fm_congr fun n hn => ?_
        have ne : (n == a) = false := by
          rw [beq_eq_false_iff_ne]
          rintro rfl
          exact nd2.1 hn
        rw [List.lookup_cons, ne]
  · obtain ⟨u, h⟩ := get n hn
    simp [h]
theorem bind_plain {fd : FuncData} {ps : List Str} (h : plainA fd.params ps = true) (nd : ps.Nodup) (hd : fd.defaults = .none) (us : List Value) (hl : us.length = ps.length) : bindArgs fd ⟨us, []⟩ = pure (ps.zip us) := by
  unfold plainA at h
  split at h
  · rename_i as e
    have h := of_decide_eq_true h
    obtain ⟨z1, z2⟩ := zip_fm nd hl
    unfold bindArgs
    simp only [e, hd, h, List.map_nil, List.nil_append, List.append_nil]
    have hg : (us.length > ps.length && (none : Option Arg).isNone) = false := by simp [hl]
    simp [seqItems?, hl, z1, z2]
    rfl
  · cases h
/-- the def's text is the code c, slots by N, parameters ps -/
def defOkB (G : GP) (N ps : List Str) (lam : Bool) (c : MI.Code) (st : Stmt) : Bool :=
  mSs G N (if lam = true then lmB G N (defScope st) else noLm) (defScope st) c.body (defBody st) && decide ((defScope st).kind = .function) && !(defScope st).isCoroutine && !(defScope st).isGenerator && decide N.Nodup && decide (N.take ps.length = ps) &&
    (ps.all fun x => locB (defScope st) x || celB (defScope st) x) && ((defScope st).names.all fun y => !decide (y.2 = .free)) && decide (c.arity = ps.length) && decide (c.nslot = N.length) && decide c.caps.Nodup &&
    (c.caps.all fun i => match N[i]? with | some x => celB (defScope st) x | none => false) && plainA (defArgs st) ps && decide ps.Nodup
section
variable {G : GP} {B : Bas} {K : PySem.W.Frag} {x qual : Str} {st : Stmt} {f : Nat} {fa : Addr} {fd : FuncData} {N ps : List Str} {lam : Bool} {c : MI.Code}
theorem fns_of (F : FunD K x qual (defArgs st) (defBody st) (defScope st) [] [] fa fd) (hfa : B.w.fa f = fa) (hK : B.K = K) (h : defOkB G N ps lam c st = true) :
    ∃ d : FnD, FnS G B (if lam = true then lmB G N (defScope st) else noLm) f c d ∧ d.N = N ∧ d.scope = defScope st ∧ d.qual = qual ∧ fd.code = d.cdv ∧ d.ps = ps ∧ ∀ us : List Value, us.length = ps.length → bindArgs d.fd ⟨us, []⟩ = pure (ps.zip us) := by
  subst hK hfa
  obtain ⟨oc, od, dV, kV, doc, pm, an, cdv, ct, osl, rfl, lk, hcd, hD, hKw⟩ := F.ex
  unfold defOkB at h
  simp only [Bool.and_eq_true, decide_eq_true_eq, Bool.not_eq_true', List.all_eq_true, Bool.or_eq_true, decide_eq_false_iff_not] at h
  obtain ⟨⟨⟨⟨⟨⟨⟨⟨⟨⟨⟨⟨⟨h1, h2⟩, h3⟩, h4⟩, h5⟩, h6⟩, h7⟩, h8⟩, h9⟩, h10⟩, h11⟩, h12⟩, h13⟩, h14⟩ := h
  have hdV : dV = .none := by
    rcases hD with ⟨_, rfl⟩ | ⟨e, _⟩
    · rfl
    · exact absurd rfl e
  refine ⟨⟨N, ps, x, qual, defArgs st, defBody st, defScope st, dV, kV, doc, pm, cdv, ct, oc, an, od, osl⟩, ⟨lk, hcd, ⟨h2, h3, h4, h5, h6, fun y hy => ?_, fun y hy => h8 y hy⟩, .all fun us hl => bind_plain h13 h14 hdV us hl, h9, h10, h11, fun i hi => ?_, h1⟩, rfl, rfl, rfl, rfl, rfl, fun us hl => bind_plain h13 h14 hdV us hl⟩
  · rcases h7 y hy with z | z
    · exact .inl (loc_of z)
    · exact .inr (cel_of z)
  · have z := h12 i hi
    cases q : N[i]? with
    | none => rw [q] at z; cases z
    | some y =>
      rw [q] at z
      exact ⟨y, rfl, cel_of z⟩
/-- the exceptions that the code raises -/
structure XcsOk (G : GP) (B : Bas) : Prop where
  sup : B.mg "super" = none
  top : (B.prog.main.scope.names.lookup ("super" : Str)).isSome = false
  xc : ∀ k z, G.xcs[k]? = some z → nmB z = true ∧ ∃ r x, RefOk B.prog B.K r ∧ XcOk B.prog B.K r x ∧ B.mg z = some (.ref x.C) ∧ B.w.xa k = x.C ∧ B.w.xn k = x.nm
theorem body_ok {n : Nat} {d : FnD} (X : XcsOk G B) (hB : B.w.lamOk = LamOk G) (hl : lam = true → ∃ c P, d.cdv = .ref c ∧ LamTab B c P (d.qual ++ ".<locals>.")) (hN : d.N = N) (hs : d.scope = defScope st) :
    BodyOk G B (if lam = true then lmB G N (defScope st) else noLm) n d := fun Y w W g eN es ec eq => by
  refine ⟨fun k caps ps body scope pos h => ?_, fun k z p pos v m hk hz hv hp => ?_⟩
  · cases lam with
    | false => cases h
    | true =>
      rw [if_pos rfl] at h
      obtain ⟨c, P, e1, T⟩ := hl rfl
      exact me_lam hB g T eq (ec.trans e1) (by rw [eN, es, hN, hs]; exact h)
  · unfold xcB at hk
    obtain ⟨hz1, r, x, RO, XO, h1, h2, h3⟩ := X.xc k z (of_decide_eq_true hk)
    obtain ⟨d1, _⟩ := nm_of hz1
    have es' : Gl Y z := by
      show Y.env.kindOf z = _
      unfold Env.kindOf
      rw [es]
      exact gl_of hz
    exact pmk_xc (by rw [g.prog, g.K]; exact RO) (by rw [g.prog, g.K]; exact XO) (by rw [g.mg]; exact X.sup) (by rw [g.prog]; exact X.top) (g.room.mono (by omega)) es' (by rw [g.mg]; exact h1) d1 hv hp (by rw [g.view.xa]; exact h2) (by rw [g.view.xn]; exact h3)
end
end MI

set_option Elab.async false
set_option linter.all false
set_option maxRecDepth 100000
set_option maxHeartbeats 8000000
/-! MINI, part 50: the exception classes, as they stand behind the top. -/
namespace MI
open PySem PySem.Spec PyProof.Rows L2
theorem supB_ok {prog : Program} {K : PySem.W.Frag} {f D : Addr} (h : supB prog K f D = true) : ∃ (oc : Value) (od : Option Addr) (osl : Array (Option Value)) (name qual : Str) (params : Arguments) (bdy : FuncBody) (scope : Scope) (dV kV doc pm ct : Value) (an : Option Addr) (cda cc : Addr),
    K.lookup f = some ⟨oc, od, .func { name, qualname := qual, params, body := bdy, scope, globals := mainGlobals, closure := [("__class__", cc)], defaults := dV, kwdefaults := kV, doc, pyModule := pm, annotations := an, code := .ref cda, closureTuple := ct, builtins := builtinsNs }, osl⟩ ∧
    PySem.W.codeIn K (.ref cda) qual = true ∧ scope.isCoroutine = false ∧ scope.isGenerator = false ∧ (∀ y ∈ scope.names, y.2 ≠ .cell) ∧ scope.names.lookup ("self" : Str) = some .local ∧ scope.names.lookup ("what" : Str) = some .local ∧
    ∀ body, bdy = .stmts body → SFn prog K f cda cc D scope (PySem.W.ksFn name qual params body scope dV kV doc pm an (.ref cda) ct cc) "self" := by
  unfold supB at h
  split at h
  · rename_i oc od fd osl hk
    obtain ⟨n1, n2, n3, n4, n5, n6, n7, n8, n9, n10, n11, n12, n13, n14, n15⟩ := fd
    simp only [Bool.and_eq_true, decide_eq_true_eq, Bool.not_eq_true', List.all_eq_true, decide_eq_false_iff_not] at h
    obtain ⟨⟨⟨⟨⟨⟨⟨⟨⟨⟨⟨⟨⟨⟨h1, h2⟩, h3⟩, h4⟩, h5⟩, h6⟩, h7⟩, h8⟩, h9⟩, h10⟩, h11⟩, h12⟩, h13⟩, h14⟩, h15⟩ := h
    subst h14 h15
    split at h2
    · rename_i cda
      split at h2
      · rename_i ccl cdd vs ccs hc
        split at h2
        · rename_i file tf hv
          split at h3
          · rename_i n cc
            simp only [Bool.and_eq_true, decide_eq_true_eq] at h3
            obtain ⟨rfl, h3⟩ := h3
            split at h3
            · rename_i cl cld E csl hcc
              have h3 := of_decide_eq_true h3
              subst h3
              refine ⟨oc, od, osl, n1, n2, n3, n4, n5, n8, n9, n10, n11, n14, n12, cda, cc, hk, h9, h10, h11, h12, h7, h13, fun body eb => ?_⟩
              subst eb
              refine ⟨⟨oc, od, osl, hk⟩, ?_, ⟨ccl, cdd, vs, ccs, file, tf, hc, hv, h2⟩, ⟨cl, cld, csl, hcc⟩, Option.isSome_iff_exists.mp h4, h5, h6, h7, h8⟩
              split at h1
              · rename_i ar r e
                exact ⟨ar, by show (n3.posonlyargs ++ n3.args).head? = some ar; rw [e]; rfl, of_decide_eq_true h1⟩
              · cases h1
            · cases h3
          · cases h3
        · cases h2
      · cases h2
    · cases h2
  · cases h
theorem oexB_ok {K : PySem.W.Frag} {C : Addr} (h : oexB K C = true) : OexC K C := by
  unfold oexB at h
  simp only [Bool.and_eq_true, decide_eq_true_eq] at h
  obtain ⟨⟨⟨⟨h1, h2⟩, h3⟩, h4⟩, h5⟩ := h
  refine ⟨?_, h2, h3, h4, h5⟩
  split at h1
  · rename_i t dd cd sl hk
    simp only [Bool.and_eq_true, decide_eq_true_eq] at h1
    obtain ⟨rfl, h1⟩ := h1
    split at h1
    · rename_i E bm k0 k1 k2 k3 n k5 hm hs
      simp only [Bool.and_eq_true, decide_eq_true_eq, Bool.not_eq_true'] at h1
      obtain ⟨⟨⟨⟨rfl, rfl⟩, hd⟩, hh⟩, hr⟩ := h1
      obtain ⟨nm, bs, mro, ns, qn, hdc, sn, sub, ab, col, del⟩ := cd
      dsimp only at hm hd hh
      subst hm hd hh
      have hsl : sl = #[k0, k1, k2, k3, some (.builtin "ValueError.__new__"), k5] := by
        obtain ⟨l⟩ := sl
        simp only at hs
        rw [hs]
      subst hsl
      exact ⟨nm, qn, ns, bs, bm, sn, sub, ab, col, dd, k0, k1, k2, k3, k5, hk, hr⟩
    · cases h1
  · cases h1
theorem ref_bind {K : PySem.W.Frag} {fd : FuncData} (hp : refPar fd.params = true) (hd : tup1 K fd.defaults = true) {s : Shared} (X : K.In s.heap) (e : Addr) (u w : Value) : BindsTo s fd ⟨[.ref e, u, w], []⟩ (nm3 e u w) := by
  obtain ⟨n1, n2, n3, n4, n5, n6, n7, n8, n9, n10, n11, n12, n13, n14, n15⟩ := fd
  have hp : refPar n3 = true := hp
  have hd : tup1 K n8 = true := hd
  unfold refPar at hp
  split at hp
  · rename_i a0 a1 a2 de hx
    simp only [Bool.and_eq_true, decide_eq_true_eq] at hp
    obtain ⟨⟨e0, e1⟩, e2⟩ := hp
    obtain ⟨x0, y0, z0⟩ := a0
    obtain ⟨x1, y1, z1⟩ := a1
    obtain ⟨x2, y2, z2⟩ := a2
    have e0 : x0 = "self" := e0
    have e1 : x1 = "what" := e1
    have e2 : x2 = "word" := e2
    subst e0 e1 e2
    cases n8 with
    | ref T =>
      unfold tup1 at hd
      simp only at hd
      split at hd
      · rename_i c od its n sl lk
        simp only [Bool.and_eq_true, decide_eq_true_eq] at hd
        obtain ⟨_, hsz⟩ := hd
        obtain ⟨l⟩ := its
        match l, hsz with
        | [v], _ => exact BindsTo.of_defaults rfl (X _ _ lk) rfl rfl rfl
      · cases hd
    | _ => cases hd
  · cases hp
theorem refB_ok {prog : Program} {K : PySem.W.Frag} {D : Addr} (h : refB prog K D = true) : ∃ r : RefD, RefOk prog K r ∧ r.D = D ∧ r.f = He.ma K D "__init__" := by
  unfold refB at h
  simp only [Bool.and_eq_true, decide_eq_true_eq] at h
  obtain ⟨⟨⟨⟨⟨⟨⟨h1, h2⟩, h3⟩, h4⟩, h5⟩, h6⟩, h7⟩, h8⟩ := h
  obtain ⟨oc, od, osl, name, qual, params, bdy, scope, dV, kV, doc, pm, ct, an, cda, cc, lk, k1, k2, k3, k4, k5, k6, k7⟩ := supB_ok h1
  unfold bodyOf at h2
  unfold parOf at h3
  unfold dflOf at h4
  unfold scOf at h5
  rw [lk] at h2 h3 h4 h5
  simp only at h2 h3 h4 h5
  unfold refBody at h2
  split at h2
  · rename_i s p0 p1 i p2 u p3 p4 p5 v p6 g p7 u' p8 p9 v' p10 g' p11 u'' p12 p13
    simp only [Bool.and_eq_true, decide_eq_true_eq] at h2
    obtain ⟨⟨⟨⟨⟨⟨⟨⟨⟨rfl, rfl⟩, rfl⟩, rfl⟩, rfl⟩, rfl⟩, rfl⟩, rfl⟩, rfl⟩, hline⟩ := h2
    refine ⟨⟨He.ma K D "__init__", cda, cc, D, name, qual, params, scope, dV, kV, doc, pm, ct, an, p0, p1, p2, p3, p4, p5, p6, p7, p8, p9, p10, p11, p12, p13⟩, ⟨k7 _ rfl, k1, k2, k3, k4, fun s e u w X => ?_, k5, k6, h5, h6, hline, h7, h8⟩, rfl, rfl⟩
    exact ref_bind h3 h4 X e u w
  · cases h2
theorem xcKB_ok {prog : Program} {K : PySem.W.Frag} {D C : Addr} {nm : Str} {r : RefD} (hD : r.D = D) (hf : r.f = He.ma K D "__init__") (h : xcKB prog K D C nm = true) : ∃ x : XcD, XcOk prog K r x ∧ x.C = C ∧ x.nm = nm := by
  unfold xcKB at h
  simp only [Bool.and_eq_true, decide_eq_true_eq] at h
  obtain ⟨⟨⟨⟨⟨⟨⟨⟨⟨⟨⟨⟨⟨h1, h2⟩, h3⟩, h4⟩, h5⟩, h6⟩, h7⟩, h8⟩, h9⟩, h10⟩, h11⟩, h12⟩, h13⟩, h14⟩ := h
  obtain ⟨oc, od, osl, name, qual, params, bdy, scope, dV, kV, doc, pm, ct, an, cda, cc, lk, k1, k2, k3, k4, k5, k6, k7⟩ := supB_ok h1
  unfold bodyOf at h2
  unfold parOf at h3
  unfold dflOf at h4
  rw [lk] at h2 h3 h4
  simp only at h2 h3 h4
  unfold xcBody at h2
  split at h2
  · rename_i s p0 p1 i p2 u p3 z j p4 p5 p6
    simp only [Bool.and_eq_true, decide_eq_true_eq] at h2
    obtain ⟨⟨⟨⟨rfl, rfl⟩, rfl⟩, rfl⟩, hline⟩ := h2
    refine ⟨⟨C, He.ma K C "__init__", cda, cc, z, name, qual, params, scope, dV, kV, doc, pm, ct, an, j, p0, p1, p2, p3, p4, p5, p6⟩, ⟨k7 _ rfl, k1, k2, k3, k4, fun e u => ?_, k5, k6, hline, oexB_ok h5, by rw [hD]; exact h6, h7, by rw [hD]; exact h8, by rw [hf]; exact h9, h10, h11, h12, h13, h14⟩, rfl, rfl⟩
    exact bind_plain (ps := ["self", "what"]) h3 (by decide) h4 [.ref e, u] rfl
  · cases h2
end MI

set_option Elab.async false
set_option linter.all false
set_option maxRecDepth 100000
set_option maxHeartbeats 8000000
/-! MINI, part 51: the facts of the program, told of the heap behind the top. -/
namespace MI
open PySem PySem.Spec PyProof.Rows L2
def hdScope (b : List Stmt) : Option Scope := match b with
  | [.Try [.Return (some (.Tuple [.Constant (.str t) _ _, .Call (.Name x0 _) [] [] _] _ _)) _]
      [.ExceptHandler (some (.Name rf _)) (some x1) [.Return (some (.Tuple [.Call (.Attribute (.Constant (.str sp) _ _) jn p2) [.ListComp (.Subscript (.Name l1 _) (.Constant (.int i0) _ _) _) [⟨.Name l2 _, .Call (.Name f _) [.Name x2 _] [] _, [.Subscript (.Name l3 _) (.Constant (.int i1) _ _) _], az⟩] scope _] [] p14, .Attribute (.Name x3 _) wh _] _ _)) _] _] [] [] _] =>
    if decide (t = "told") && decide (x0 = hN0) && decide (rf = hNr) && decide (x1 = hN1) && decide (sp = " ") && decide (jn = "join") && decide (l1 = hNl) && decide (i0 = 0) && decide (l2 = hNl) && decide (f = hNf) && decide (x2 = hN1) && decide (l3 = hNl) && decide (i1 = 1) && decide (az = 0) && decide (x3 = hN1) && decide (wh = "what") && (p2.endLine == p14.line) then some scope else none
  | _ => none
theorem hdScope_ok {b : List Stmt} {scope : Scope} (h : hdScope b = some scope) : HdB hN0 hN1 hNf hNl hNr scope b := by
  unfold hdScope at h
  split at h
  · split at h
    · rename_i c
      cases h
      simp only [Bool.and_eq_true, decide_eq_true_eq] at c
      obtain ⟨⟨⟨⟨⟨⟨⟨⟨⟨⟨⟨⟨⟨⟨⟨⟨rfl, rfl⟩, rfl⟩, rfl⟩, rfl⟩, rfl⟩, rfl⟩, rfl⟩, rfl⟩, rfl⟩, rfl⟩, rfl⟩, rfl⟩, rfl⟩, rfl⟩, rfl⟩, hl⟩ := c
      exact ⟨_, _, _, _, _, _, _, _, _, _, _, _, _, _, _, _, _, _, _, _, _, _, _, _, _, _, _, _, _, _, _, _, rfl, hl⟩
    · cases h
  · cases h
theorem clEls_ok {b : List Stmt} {es : List Expr} (h : clEls b = some es) : ∃ lp rp, b = [.Return (some (.List es lp)) rp] := by
  unfold clEls at h
  split at h
  · cases h
    exact ⟨_, _, rfl⟩
  · cases h
theorem prs_ok {X : Cx} {w : Vw} {a D dd : Addr} {oe : Obj} {h : Heap} {y : Str} (C : L2.ExcC X.K D) (hp : (a, oe) ∈ X.pn) (hz : Zc (.ref D) (some dd) oe) (hf : ∃ vs, oe.data = .fields vs) (KX : X.K.In h) (hns : h.Ns mainGlobals X.mg) (hm : X.mg "isinstance" = none) (hN : X.N[0]? = some y) (hv : Vis X.env.scope y) (hy : nmB y = true) :
    ∀ {es : List Expr} {zs : List (Str × Str)} {qs : List (Str × Bool)}, clZ X.env.scope y es = some zs → (∀ p ∈ zs, (He.Fa.glo p.2).ok X.K = true) → kitB X.K D zs qs = true → Pairs X w 0 a dd es qs
  | [], zs, qs, h1, _, h3 => by
    unfold clZ at h1
    cases h1
    cases qs with
    | nil => exact .nil
    | cons q qs => unfold kitB at h3; cases h3
  | e :: es, zs, qs, h1, h2, h3 => by
    unfold clZ at h1
    split at h1
    · rename_i e1
      cases e1
    · rename_i e1
      cases e1
      split at h1
      · rename_i c
        simp only [Bool.and_eq_true, decide_eq_true_eq] at c
        obtain ⟨⟨⟨⟨rfl, rfl⟩, h4⟩, h5⟩, h6⟩ := c
        obtain ⟨zs', e2, rfl⟩ := Option.map_eq_some_iff.mp h1
        cases qs with
        | nil => unfold kitB at h3; cases h3
        | cons q qs =>
          unfold kitB at h3
          simp only [Bool.and_eq_true, decide_eq_true_eq] at h3
          obtain ⟨⟨rfl, h8⟩, h9⟩ := h3
          obtain ⟨d1, d2⟩ := nm_of h5
          obtain ⟨d3, d4⟩ := nm_of hy
          refine .cons (me_pair (z := q.1) (b := q.2) pe_str (pe_isX C hp hz hf h8 ?_ hm hN hv d3 d4 ?_ (He.glo_ok KX hns (h2 _ List.mem_cons_self)) d1) rfl rfl) rfl (prs_ok C hp hz hf KX hns hm hN hv hy e2 (fun p hp => h2 p (List.mem_cons_of_mem _ hp)) h9)
          · show X.env.kindOf _ = _
            unfold Env.kindOf
            exact gl_of h6
          · show X.env.kindOf _ = _
            unfold Env.kindOf
            exact gl_of h4
      · cases h1
    · cases h1
theorem excCB_ok {K : PySem.W.Frag} {D : Addr} (h : excCB K D = true) : L2.ExcC K D := by
  unfold excCB at h
  simp only [Bool.and_eq_true, decide_eq_true_eq] at h
  obtain ⟨⟨⟨⟨⟨⟨⟨h1, h2⟩, h3⟩, h4⟩, h5⟩, h6⟩, h7⟩, h8⟩ := h
  exact ⟨h1, h2, h3, h4, h5, h6, h7, h8⟩
/-! ### the facts -/
/-- the classes' methods stand where they should -/
def clsG (G : GP) : Bool := G.cls.all fun C => (match G.funs[C.init]? with
    | some ⟨p, .code _⟩ => decide (p = (C.name, some ("__init__" : Str)))
    | _ => false) && C.meths.all fun m => match G.funs[m.2]? with
    | some F => decide (F.path = (C.name, some m.1))
    | none => false
def tabT (T : TX) (K : PySem.W.Frag) : List (Addr × Str) := (lamP T).map fun p => ((He.cT K p).2, qualOf p ++ ".<locals>." ++ "<lambda>")
def vwOf (T : TX) (K : PySem.W.Frag) : Vw where
  K := K
  fa := fun f => match T.G.funs[f]? with
    | some F => He.fAd K F.path
    | none => 0
  ca := fun c => match T.G.cls[c]? with
    | some C => He.ga K C.name
    | none => 0
  xa := fun k => match T.G.xcs[k]? with
    | some z => He.ga K z
    | none => 0
  xn := fun k => (T.G.xcs[k]?).getD ""
  own := []
  kc := fun _ _ _ => False
  lamOk := LamOk T.G
  T := tabT T K
/-- what is asked of the text alone -/
def defG (G : GP) (q : MI.Fn × DE) : Bool := match q.1.fb with
  | .code c => defOkB G q.2.N q.2.ps q.2.lam c q.2.st
  | .heard _ => (hdScope (defBody q.2.st)).isSome && decide (q.2.N = [hN0, hN1, hNl]) && decide (q.2.ps = [hN0]) && !q.2.lam
/-- the trial's own text -/
def hdG (e hc : DE) : Bool := match hdScope (defBody e.st) with
  | some scope => decide (e.N = [hN0, hN1, hNl]) && decide (e.ps = [hN0]) && decide ((defScope e.st).kind = .function) && !(defScope e.st).isCoroutine && !(defScope e.st).isGenerator && ((defScope e.st).names.all fun y => !decide (y.2 = .free)) && plainA (defArgs e.st) [hN0] &&
      locB (defScope e.st) hN0 && locB (defScope e.st) hN1 && glB (defScope e.st) hNr && glB (defScope e.st) hNf && blkC e.N (defScope e.st) scope [(hNl, 2)] && locB (relS scope (defScope e.st)) hNl &&
      (match hc.ps with
        | [y] => decide (hc.N = [y]) && nmB y && locB (defScope hc.st) y && plainA (defArgs hc.st) [y] && decide ((defScope hc.st).kind = .function) && !(defScope hc.st).isCoroutine && !(defScope hc.st).isGenerator && ((defScope hc.st).names.all fun y => !decide (y.2 = .free)) && (clEls (defBody hc.st)).isSome
        | _ => false)
  | none => false
end MI

set_option Elab.async false
set_option linter.all false
set_option maxRecDepth 100000
set_option maxHeartbeats 8000000
/-! MINI, part 52: the facts, looked at behind the top. -/
namespace MI
open PySem PySem.Spec PyProof.Rows L2
theorem frK_at {g : Addr → Option Obj} {n : List Str} {a : Addr} {o : Obj} (h : (frK g n).lookup a = some o) : g a = some o ∧ He.emptyTab o = false ∧ noLst o = true := by
  obtain ⟨h1, h2⟩ := List.mem_filter.mp (He.lookup_mem h)
  obtain ⟨h3, h4⟩ := List.mem_filter.mp h1
  exact ⟨He.frG_mem h3, by simpa using h4, h2⟩
theorem frK_in {h : Heap} {n : List Str} : (frK h.get? n).In h := fun _ _ e => (frK_at e).1
theorem frK_none {g : Addr → Option Obj} {n : List Str} {a : Addr} {o : Obj} (h : g a = some o) (ht : He.emptyTab o = true) : (frK g n).lookup a = none := by
  cases e : (frK g n).lookup a with
  | none => rfl
  | some u =>
    obtain ⟨h1, h2, _⟩ := frK_at e
    rw [h] at h1
    rw [← Option.some.inj h1, ht] at h2
    cases h2
structure SayK (prog : Program) (T : TX) (h : Heap) (K : PySem.W.Frag) : Prop where
  kin : K.In h
  lst : ∀ a o, K.lookup a = some o → o.cls ≠ .type "list"
  ok : okK prog T K = true
  fn : ∀ d ∈ fnL T, d.ok K = true ∧ He.fnW K d.at_ = d.val
  hd : ∀ p ∈ lamP T, PySem.W.codeHdIn K (He.cT K p).1 (He.cT K p).2 = true
  out : ∀ p ∈ lamP T, K.lookup (He.cT K p).2 = none
  emp : ∀ p ∈ lamP T, h.get? (He.cT K p).2 = some { cls := .none, data := .fields #[] }
theorem say_of {prog : Program} {T : TX} {n : List Str} {h : Heap} (e : obK prog T n h.get? (frK h.get? n) = vaK T) : SayK prog T h (frK h.get? n) := by
  have e1 := congrArg (fun z : AlK => z.1) e
  have e2 := congrArg (fun z : AlK => z.2) e
  simp only [obK, vaK, Bool.and_eq_true, List.all_eq_true] at e1 e2
  obtain ⟨⟨h1, h2⟩, h3⟩ := e1
  have key : ∀ p ∈ lamP T, PySem.W.codeHdIn (frK h.get? n) (He.cT (frK h.get? n) p).1 (He.cT (frK h.get? n) p).2 = true ∧ ∃ o, h.get? (He.cT (frK h.get? n) p).2 = some o ∧ He.emptyTab o = true := fun p hp => by
    have z := h3 p hp
    unfold tabB at z
    rw [Bool.and_eq_true] at z
    refine ⟨z.1, ?_⟩
    have z2 := z.2
    split at z2
    · rename_i o q
      exact ⟨o, q, z2⟩
    · cases z2
  refine ⟨frK_in, fun a o q c => ?_, h1, fun d hd => ⟨h2 d hd, ?_⟩, fun p hp => (key p hp).1, fun p hp => ?_, fun p hp => ?_⟩
  · obtain ⟨_, _, z⟩ := frK_at q
    obtain ⟨oc, od, dt, sl⟩ := o
    have c : oc = .type "list" := c
    subst c
    unfold noLst at z
    simp at z
  · exact List.map_inj_left.mp e2 d hd
  · obtain ⟨_, o, q, z⟩ := key p hp
    exact frK_none q z
  · obtain ⟨_, o, q, z⟩ := key p hp
    rw [q, He.emptyTab_eq z]
def hookK (prog : Program) (T : TX) (n : List Str) : PySem.W.Hook where
  α := AlK
  obs := fun s => obK prog T n s.heap.get? (frK s.heap.get? n)
  val := fun _ => vaK T
  says := fun _ h => ∃ K : PySem.W.Frag, SayK prog T h K
  of := fun _ _ e => ⟨_, say_of e⟩
  keeps := fun _ _ _ ⟨K, c⟩ k => ⟨K, PySem.W.Frag.In.keeps c.kin k, c.lst, c.ok, c.fn, c.hd, c.out, fun p hp => k _ _ (c.emp p hp)⟩
theorem obG_eq {prog : Program} {T : TX} {n : List Str} (s : PySem.W.SharedT) : obG prog T n s = (hookK prog T n).obs s.abs := by
  have e : HandSHeadRun.getT s = s.abs.heap.get? := funext (HandSHeadRun.getT_eq s)
  unfold obG
  rw [e]
  rfl
end MI

set_option Elab.async false
set_option linter.all false
set_option maxRecDepth 100000
set_option maxHeartbeats 8000000
/-! MINI, part 53: from the facts to calls of every depth. -/
namespace MI
open PySem PySem.Spec PyProof.Rows L2
def basOf (prog : Program) (wd : World) (T : TX) (K : PySem.W.Frag) (mg : Str → Option Value) (base : Heap) : Bas := ⟨prog, wd, K, mg, base, vwOf T K⟩
section
variable {prog : Program} {wd : World} {T : TX} {K : PySem.W.Frag} {mg : Str → Option Value} {base h : Heap}
/-- okK, cut -/
structure OkK (prog : Program) (T : TX) (K : PySem.W.Frag) : Prop where
  fa : ∀ f ∈ factsOf T.G, f.ok K = true
  ref : (He.Fa.glo hNr).ok K = true
  sup : (He.Fa.free "super").ok K = true
  cls : (He.Fa.glo hNf).ok K = true
  isi : (He.Fa.free "isinstance").ok K = true
  rfB : refB prog K (He.ga K hNr) = true
  xcs : ∀ z ∈ T.G.xcs, nmB z = true ∧ (He.Fa.glo z).ok K = true ∧ xcKB prog K (He.ga K hNr) (He.ga K z) z = true ∧ xfB K (He.ga K z) = true ∧ excCB K (He.ga K z) = true ∧ PySem.W.exmOne K (.ref (He.ga K z)) (.ref (He.ga K hNr)) = some true
  tab : ∀ p ∈ lamP T, ∀ q ∈ lamP T, (He.cT K p).2 = (He.cT K q).2 → p = q
  prs : ∃ zs, clsZ T = some zs ∧ (∀ p ∈ zs, (He.Fa.glo p.2).ok K = true) ∧ ∀ F ∈ T.G.funs, ∀ names, F.fb = .heard names → ∀ r ∈ names, ∃ z, T.G.xcs[r.1]? = some z ∧ kitB K (He.ga K z) zs r.2 = true ∧ r.2.length ≤ 1000
theorem okK_cut (hh : okK prog T K = true) : OkK prog T K := by
  unfold okK at hh
  simp only [Bool.and_eq_true, List.all_eq_true, decide_eq_true_eq, Bool.or_eq_true, Bool.not_eq_true', decide_eq_false_iff_not] at hh
  obtain ⟨⟨⟨⟨⟨⟨⟨⟨h1, h2⟩, h3⟩, h4⟩, h5⟩, h6⟩, h7⟩, h8⟩, h9⟩ := hh
  refine ⟨h1, h2, h3, h4, h5, h6, fun z hz => ?_, fun p hp q hq e => (h8 p hp q hq).resolve_right fun n => n e, ?_⟩
  · obtain ⟨⟨⟨⟨⟨k1, k2⟩, k3⟩, k4⟩, k5⟩, k6⟩ := h7 z hz
    exact ⟨k1, k2, k3, k4, k5, k6⟩
  · split at h9
    · rename_i zs e
      simp only [Bool.and_eq_true, List.all_eq_true] at h9
      refine ⟨zs, e, h9.1, fun F hF names eb r hr => ?_⟩
      have k := h9.2 F hF
      rw [eb] at k
      simp only [List.all_eq_true] at k
      have k := k r hr
      split at k
      · rename_i z e2
        simp only [Bool.and_eq_true, decide_eq_true_eq] at k
        exact ⟨z, e2, k.1, k.2⟩
      · cases k
    · cases h9
theorem mem_lookup {α β : Type} [BEq α] [LawfulBEq α] {a : α} {b : β} : ∀ {l : List (α × β)}, l.lookup a = some b → (a, b) ∈ l
  | [], e => by simp at e
  | (c, d) :: l, e => by
    rw [List.lookup_cons] at e
    cases q : a == c with
    | true =>
      rw [q] at e
      cases e
      rw [eq_of_beq q]
      exact List.mem_cons_self
    | false =>
      rw [q] at e
      exact List.mem_cons_of_mem _ (mem_lookup e)
theorem fn_at (hl : T.des.length = T.G.funs.length) {f : Nat} {F : MI.Fn} (e : T.G.funs[f]? = some F) : ∃ d, T.des[f]? = some d ∧ (F, d) ∈ T.G.funs.zip T.des := by
  have hf := (List.getElem?_eq_some_iff.mp e).1
  have hd : f < T.des.length := by omega
  refine ⟨T.des[f], List.getElem?_eq_getElem hd, List.mem_of_getElem? (i := f) ?_⟩
  rw [List.getElem?_zip_eq_some]
  exact ⟨e, List.getElem?_eq_getElem hd⟩
theorem fun_at (S : SayK prog T h K) {F : MI.Fn} {d : DE} (hm : (F, d) ∈ T.G.funs.zip T.des) : PySem.W.keepIn K (.ref (He.fAd K F.path)) = true ∧ ∃ fd, FunD K (F.path.2.getD F.path.1) (qualOf F.path) (defArgs d.st) (defBody d.st) (defScope d.st) [] [] (He.fAd K F.path) fd := by
  obtain ⟨h1, h2⟩ := S.fn (deD F.path d) (List.mem_append_left _ (List.mem_map.mpr ⟨(F, d), hm, rfl⟩))
  have hk := h1
  unfold He.DefD.ok at hk
  rw [Bool.and_eq_true] at hk
  exact ⟨hk.1, He.DefD.funD h2 h1⟩
theorem st0_of (S : SayK prog T h K) (hns : h.Ns mainGlobals mg) (hl : T.des.length = T.G.funs.length) (hc : clsG T.G = true) : St0 T.G (basOf prog wd T K mg base) := by
  have O := okK_cut S.ok
  have fa : ∀ f, f ∈ factsOf T.G → f.ok K = true := O.fa
  unfold factsOf at fa
  simp only [List.mem_append, List.mem_map, List.mem_filterMap, List.mem_flatMap] at fa
  have inC : ∀ (C : Cl) f, C ∈ T.G.cls → f ∈ [He.Fa.glo C.name, .cls C.name, .mkr C.name] ++ (C.meths.map fun m => He.Fa.meth C.name m.1) ++ C.flds.map (fun f => He.Fa.noat C.name f) → f.ok K = true := fun C f hC hf => fa f (.inr ⟨C, hC, by simpa [List.mem_append, or_assoc] using hf⟩)
  unfold clsG at hc
  simp only [List.all_eq_true, Bool.and_eq_true] at hc
  have ini : ∀ (c : Nat) (C : Cl), T.G.cls[c]? = some C → ∃ k, T.G.funs[C.init]? = some ⟨(C.name, some "__init__"), .code k⟩ := fun c C e => by
    have z := (hc C (List.mem_of_getElem? e)).1
    split at z
    · rename_i p k q
      rw [of_decide_eq_true z] at q
      exact ⟨k, q⟩
    · cases z
  have eca : ∀ (c : Nat) (C : Cl), T.G.cls[c]? = some C → (basOf prog wd T K mg base).w.ca c = He.ga K C.name := fun c C e => by
    show (match T.G.cls[c]? with | some C => He.ga K C.name | none => 0) = _
    rw [e]
  have efa : ∀ (f : Nat) (F : MI.Fn), T.G.funs[f]? = some F → (basOf prog wd T K mg base).w.fa f = He.fAd K F.path := fun f F e => by
    show (match T.G.funs[f]? with | some F => He.fAd K F.path | none => 0) = _
    rw [e]
  refine ⟨rfl, fun x i e => He.int_ok S.kin hns (fa _ (.inl (.inl (.inl (.inr ⟨(x, i), mem_lookup e, rfl⟩))))), fun x z e => He.str_ok S.kin hns (fa _ (.inl (.inl (.inr ⟨(x, z), mem_lookup e, rfl⟩)))), fun x hx => He.free_ok S.kin hns (fa _ (.inl (.inl (.inl (.inl ⟨x, hx, rfl⟩))))), fun f x b e => ?_, fun c C e => ?_, fun c C m f e1 e2 => ?_, fun c f e => ?_, fun c C e => ?_⟩
  · rw [efa _ _ e]
    obtain ⟨d, _, hm⟩ := fn_at hl e
    refine ⟨He.glo_ok S.kin hns (fa _ (.inl (.inr ⟨_, List.mem_of_getElem? e, rfl⟩))), (fun_at S hm).1⟩
  · obtain ⟨k, ei⟩ := ini c C e
    rw [efa _ _ ei, eca _ _ e]
    have hC := List.mem_of_getElem? e
    exact ⟨He.glo_ok S.kin hns (inC C _ hC (by simp)), He.cls_ok (inC C (.cls C.name) hC (by simp)), He.mkr_ok (inC C (.mkr C.name) hC (by simp))⟩
  · have hC := List.mem_of_getElem? e1
    have hm := mem_lookup e2
    have z := (hc C hC).2 (m, f) hm
    split at z
    · rename_i F q
      rw [efa _ _ q, eca _ _ e1, of_decide_eq_true z]
      exact He.meth_ok (inC C (.meth C.name m) hC (List.mem_append_left _ (List.mem_append_right _ (List.mem_map.mpr ⟨(m, f), hm, rfl⟩))))
    · cases z
  · unfold fldOk at e
    cases q : T.G.cls[c]? with
    | none => rw [q] at e; cases e
    | some C =>
      rw [q] at e
      rw [eca _ _ q]
      have hf : f ∈ C.flds := by simpa using e
      exact He.noat_ok (inC C (.noat C.name f) (List.mem_of_getElem? q) (List.mem_append_right _ (List.mem_map.mpr ⟨f, hf, rfl⟩)))
  · obtain ⟨k, ei⟩ := ini c C e
    exact ⟨_, k, ei, rfl⟩
theorem xcs_of (S : SayK prog T h K) (hns : h.Ns mainGlobals mg) (ht : (prog.main.scope.names.lookup ("super" : Str)).isSome = false) : XcsOk T.G (basOf prog wd T K mg base) := by
  have O := okK_cut S.ok
  refine ⟨He.free_ok S.kin hns O.sup, ht, fun k z e => ?_⟩
  obtain ⟨k1, k2, k3, k4, k5, k6⟩ := O.xcs z (List.mem_of_getElem? e)
  obtain ⟨r, hr, eD, ef⟩ := refB_ok O.rfB
  obtain ⟨x, hx, eC, en⟩ := xcKB_ok eD ef k3
  refine ⟨k1, r, x, hr, hx, by rw [eC]; exact He.glo_ok S.kin hns k2, ?_, ?_⟩
  · rw [eC]
    show (match T.G.xcs[k]? with | some z => He.ga K z | none => 0) = _
    rw [e]
  · rw [en]
    show (T.G.xcs[k]?).getD "" = _
    rw [e]
    rfl
theorem fnd_of {x qual : Str} {st : Stmt} {fa : Addr} {fd : FuncData} (F : FunD K x qual (defArgs st) (defBody st) (defScope st) [] [] fa fd) (N ps : List Str) (hp : plainA (defArgs st) ps = true) (nd : ps.Nodup) :
    ∃ d : FnD, d.N = N ∧ d.ps = ps ∧ d.body = defBody st ∧ d.scope = defScope st ∧ d.qual = qual ∧ K.lookup fa = some ⟨d.oc, d.od, .func d.fd, d.osl⟩ ∧ PySem.W.codeIn K d.cdv d.qual = true ∧ L2.Binds K d.fd d.ps [] := by
  obtain ⟨oc, od, dV, kV, doc, pm, an, cdv, ct, osl, rfl, lk, hcd, hD, hKw⟩ := F.ex
  have hdV : dV = .none := by
    rcases hD with ⟨_, rfl⟩ | ⟨e, _⟩
    · rfl
    · exact absurd rfl e
  exact ⟨⟨N, ps, x, qual, defArgs st, defBody st, defScope st, dV, kV, doc, pm, cdv, ct, oc, an, od, osl⟩, rfl, rfl, rfl, rfl, rfl, lk, hcd, .all fun us hl => bind_plain hp nd hdV us hl⟩
end
end MI

set_option Elab.async false
set_option linter.all false
set_option maxRecDepth 100000
set_option maxHeartbeats 8000000
/-! MINI, part 54: every def of the program. -/
namespace MI
open PySem PySem.Spec PyProof.Rows L2
section
variable {prog : Program} {wd : World} {T : TX} {K : PySem.W.Frag} {mg : Str → Option Value} {base h : Heap}
theorem lamTab_of (O : OkK prog T K) (tb : ∀ p ∈ lamP T, LamX.TabB base mg (He.cT K p).1 (He.cT K p).2) {p : Pth} (hp : p ∈ lamP T) : LamTab (basOf prog wd T K mg base) (He.cT K p).1 (He.cT K p).2 (qualOf p ++ ".<locals>.") where
  tab := tb p hp
  mem := List.mem_map.mpr ⟨p, hp, rfl⟩
  one := fun q hq e => by
    have hq : q ∈ tabT T K := hq
    unfold tabT at hq
    obtain ⟨p', hp', rfl⟩ := List.mem_map.mp hq
    have := O.tab p' hp' p hp e
    subst this
    rfl
theorem code_ok (S : SayK prog T h K) (hl : T.des.length = T.G.funs.length) (X : XcsOk T.G (basOf prog wd T K mg base)) (tb : ∀ p ∈ lamP T, LamX.TabB base mg (He.cT K p).1 (He.cT K p).2) {f : Nat} {p : Pth} {c : MI.Code} {e : DE} (hf : T.G.funs[f]? = some ⟨p, .code c⟩)
    (hm : ((⟨p, .code c⟩ : MI.Fn), e) ∈ T.G.funs.zip T.des) (hc : defOkB T.G e.N e.ps e.lam c e.st = true) : ∃ lm d, FnS T.G (basOf prog wd T K mg base) lm f c d ∧ d.N = e.N ∧ ∀ n, BodyOk T.G (basOf prog wd T K mg base) lm n d := by
  obtain ⟨_, fd, F⟩ := fun_at S hm
  have efa : (basOf prog wd T K mg base).w.fa f = He.fAd K p := by
    show (match T.G.funs[f]? with | some F => He.fAd K F.path | none => 0) = _
    rw [hf]
  obtain ⟨d, Fd, eN, es, eq, ec, _, _⟩ := fns_of (B := basOf prog wd T K mg base) F efa rfl hc
  refine ⟨_, d, Fd, eN, fun n => body_ok X rfl (fun hlam => ?_) eN es⟩
  have hp : p ∈ lamP T := List.mem_filterMap.mpr ⟨_, hm, if_pos hlam⟩
  obtain ⟨oc, od, dV, kV, doc, pm, an, cdv, ct, osl, rfl, lk, hcd, _, _⟩ := F.ex
  obtain ⟨c0, e0⟩ := He.codeIn_ref hcd
  have e1 : (He.cT K p).1 = c0 := He.codeOf_eq lk e0
  refine ⟨(He.cT K p).1, (He.cT K p).2, by rw [← ec, e1]; exact e0, ?_⟩
  rw [eq]
  exact lamTab_of (okK_cut S.ok) tb hp
theorem heard_ok (S : SayK prog T h K) (hns : h.Ns mainGlobals mg) (hl : T.des.length = T.G.funs.length) {f : Nat} {p : Pth} {names : List (Nat × List (Str × Bool))} {e : DE} (hf : T.G.funs[f]? = some ⟨p, .heard names⟩) (hm : ((⟨p, .heard names⟩ : MI.Fn), e) ∈ T.G.funs.zip T.des) (hd : hdG e T.hcl = true) :
    FunOk T.G (basOf prog wd T K mg base) f ⟨p, .heard names⟩ := by
  have O := okK_cut S.ok
  obtain ⟨_, fd, F⟩ := fun_at S hm
  have efa : (basOf prog wd T K mg base).w.fa f = He.fAd K p := by
    show (match T.G.funs[f]? with | some F => He.fAd K F.path | none => 0) = _
    rw [hf]
  unfold hdG at hd
  split at hd
  · rename_i scope es
    simp only [Bool.and_eq_true, decide_eq_true_eq, Bool.not_eq_true', List.all_eq_true, decide_eq_false_iff_not] at hd
    obtain ⟨⟨⟨⟨⟨⟨⟨⟨⟨⟨⟨⟨⟨h1, h2⟩, h3⟩, h4⟩, h5⟩, h6⟩, h7⟩, h8⟩, h9⟩, h10⟩, h11⟩, h12⟩, h13⟩, h14⟩ := hd
    split at h14
    · rename_i y eps
      simp only [Bool.and_eq_true, decide_eq_true_eq, Bool.not_eq_true', List.all_eq_true, decide_eq_false_iff_not] at h14
      obtain ⟨⟨⟨⟨⟨⟨⟨⟨k1, k2⟩, k3⟩, k4⟩, k5⟩, k6⟩, k7⟩, k8⟩, k9⟩ := h14
      obtain ⟨els, k9⟩ := Option.isSome_iff_exists.mp k9
      obtain ⟨z1, z2⟩ := S.fn (deD (hNf, none) T.hcl) (List.mem_append_right _ (List.mem_singleton.mpr rfl))
      have kp := z1
      unfold He.DefD.ok at kp
      rw [Bool.and_eq_true] at kp
      obtain ⟨fdc, Fc⟩ := He.DefD.funD z2 z1
      obtain ⟨dh, a1, a2, a3, a4, a5, a6, a7, a8⟩ := fnd_of F e.N [hN0] h7 (by decide)
      obtain ⟨dc, b1, b2, b3, b4, b5, b6, b7, b8⟩ := fnd_of Fc [y] [y] k4 (by simp)
      obtain ⟨lp, rp, eb⟩ := clEls_ok k9
      have hl0 := loc_of h8
      have hl1 := loc_of h9
      have hly := loc_of k3
      obtain ⟨zs, q1, q2, q3⟩ := O.prs
      have q4 := q3 _ (List.mem_of_getElem? hf) names rfl
      have exa : ∀ (c : Nat) z, T.G.xcs[c]? = some z → (basOf prog wd T K mg base).w.xa c = He.ga K z := fun c z ez => by
        show (match T.G.xcs[c]? with | some z => He.ga K z | none => 0) = _
        rw [ez]
      unfold clsZ at q1
      rw [eps, k9] at q1
      simp only at q1
      have HO : HdOk (basOf prog wd T K mg base) f names dh dc (He.ga K hNf) (He.ga K hNr) hN0 hN1 hNf hNl hNr scope els := by
        refine ⟨rfl, (by rw [efa]; exact a6), a7, ?_, a8, (by rw [a1, h1]), a2, (by rw [a3]; exact hdScope_ok es), (by rw [a4]; exact hl0), (by rw [a4]; exact hl1), (by decide +kernel), (by decide +kernel), (by decide +kernel),
          (by rw [a4]; exact gl_of h10), He.glo_ok S.kin hns O.ref, (by decide +kernel), (by rw [a4]; exact gl_of h11), He.glo_ok S.kin hns O.cls, (by decide +kernel), kp.1, b6, b7, ?_, b8, ⟨y, b2⟩, ⟨lp, rp, by rw [b3, eb]⟩, ?_, ?_, fun c qs hq => ?_, fun c qs hq CX0 w a dd oe A out s H hz hfl => ?_⟩
        · rw [a1, a2, a4, h1]
          exact ⟨h3, h4, h5, by decide +kernel, rfl, fun x hx => by rw [List.mem_singleton.mp hx]; exact .inl hl0, h6⟩
        · rw [b1, b2, b4]
          exact ⟨k5, k6, k7, by simp, rfl, fun x hx => by rw [List.mem_singleton.mp hx]; exact .inl hly, k8⟩
        · rw [a1, a4]
          exact blkOk_by h12
        · rw [a4]
          exact loc_of h13
        · obtain ⟨z, e1, e2, e3⟩ := q4 (c, qs) (mem_lookup hq)
          obtain ⟨_, _, x3, x4, x5, x6⟩ := O.xcs z (List.mem_of_getElem? e1)
          rw [exa c z e1]
          have x3' := x3
          unfold xcKB at x3'
          simp only [Bool.and_eq_true, decide_eq_true_eq] at x3'
          exact ⟨xfB_ok x4, x3'.1.1.1.2, Nat.le_trans e3 (by decide), x6⟩
        · obtain ⟨z, e1, e2, e3⟩ := q4 (c, qs) (mem_lookup hq)
          obtain ⟨_, _, _, _, x5, _⟩ := O.xcs z (List.mem_of_getElem? e1)
          rw [exa c z e1] at hz
          refine prs_ok (X := L2H.cxH CX0 prog wd K mg base dc.N dc.qual dc.scope (He.ga K hNf) dc.cdv A out s H (fun _ _ _ => False) (a, oe)) (y := y) (excCB_ok x5) List.mem_cons_self hz hfl S.kin hns (He.free_ok S.kin hns O.isi) ?_ (.inl ?_) k2 (zs := zs) ?_ q2 e2
          · show dc.N[0]? = some y
            rw [b1]
            rfl
          · show dc.scope.names.lookup y = _
            rw [b4]
            exact hly
          · show clZ dc.scope y els = some zs
            rw [b4]
            exact q1
      exact hd_ok HO rfl
    · cases h14
  · cases hd
theorem funs_ok (S : SayK prog T h K) (hns : h.Ns mainGlobals mg) (hl : T.des.length = T.G.funs.length) (hG : ∀ q ∈ T.G.funs.zip T.des, match q.1.fb with
      | .code c => defOkB T.G q.2.N q.2.ps q.2.lam c q.2.st = true
      | .heard _ => hdG q.2 T.hcl = true) (X : XcsOk T.G (basOf prog wd T K mg base)) (tb : ∀ p ∈ lamP T, LamX.TabB base mg (He.cT K p).1 (He.cT K p).2) : ∀ f F, T.G.funs[f]? = some F → FunOk T.G (basOf prog wd T K mg base) f F := fun f F e => by
  obtain ⟨d, _, hm⟩ := fn_at hl e
  have g := hG _ hm
  obtain ⟨p, b⟩ := F
  cases b with
  | code c =>
    obtain ⟨lm, d', h1, _, h2⟩ := code_ok (mg := mg) (base := base) (wd := wd) S hl X tb e hm g
    exact ⟨lm, d', h1, fun n _ => h2 n⟩
  | heard names => exact heard_ok S hns hl e hm g
end
end MI

set_option Elab.async false
set_option linter.all false
set_option maxRecDepth 100000
set_option maxHeartbeats 8000000
/-! MINI, part 55: the law's own call, from nothing. -/
namespace MI
open PySem PySem.Spec PyProof.Rows L2
/-- the script as it stands at the law's start -/
def ScrO (is : List Int) (ob : Ob) : Prop := ob = .lst (is.map .int) ∨ ob = .fro (is.map .int)
/-- what the small language says of the law -/
def PlainLaw (G : GP) (f n : Nat) : Prop := ∀ (is : List Int) (ob : Ob), is.length ≤ 63 → ScrO is ob → ∃ st', (calls G (n + 1)).1 f [.loc 0] [ob] = .ok (.bl true) st'
theorem repl_ints {w : Vw} {φ : List Addr} {H : Hp} : ∀ is : List Int, RepL w φ H (is.map .int) (is.map V.int)
  | [] => RepL.nil
  | i :: is => .cons (rep_int.mpr rfl) (repl_ints is)
/-- the law's promise -/
def spLaw (T : TX) (K : PySem.W.Frag) : Sp := fun vs H Q _ => ∃ (a : Addr) (is : List Int), vs = [.ref a] ∧ is.length ≤ 63 ∧ SqL K H a (is.map V.int) ∧ (∀ p ∈ lamP T, H (He.cT K p).2 = some (.tbl #[])) ∧ ∀ H', Q (.bl true) H'
section
variable {prog : Program} {wd : World} {T : TX} {K : PySem.W.Frag} {mg : Str → Option Value} {base h : Heap}
theorem law_enter {n f : Nat} {c : MI.Code} {d : FnD} {lm : LmB} {fa : Addr} (B : Bas) (eB : B = basOf prog wd T K mg base) (hS : HS T.G B n) (F : FnS T.G B lm f c d) (hb : BodyOk T.G B lm n d) (hlst : ∀ a o, K.lookup a = some o → o.cls ≠ .type "list") {pth : Pth} (hf : T.G.funs[f]? = some ⟨pth, .code c⟩) (har : d.ps.length = 1)
    (plain : PlainLaw T.G f n) {A : Around} {outer : List Env} {s : Shared} {H : Hp} {vs : List V} {Q : VK} {E : XK} (hroom : Room (2 * n + 2) (A.deeper (envOfC d.qual d.scope s.heap.objs.size fa d.cdv))) (hsp : spLaw T K vs H Q E) :
    ∃ t, PSs (cxOf (L2N.CX prog wd) prog wd K mg base d.N d.qual d.scope fa d.cdv A outer s H E) d.body t ∧ t { nx := fun _ H' => Q .non H', rt := Q } (L2.start d.N vs) H := by
  subst eB
  obtain ⟨a, is, rfl, hlen, hsq, htab, hQ⟩ := hsp
  have hob : ∃ ob, ScrO is ob ∧ ((ob = .lst (is.map .int) ∧ H a = some (.lst (is.map V.int))) ∨ (ob = .fro (is.map .int) ∧ ∃ o, H a = some (.frz o (.lst (is.map V.int))))) := by
    rcases hsq with (z | ⟨o, z⟩) | ⟨o, its, k, h1, h2, _⟩
    · exact ⟨_, .inl rfl, .inl ⟨rfl, z⟩⟩
    · exact ⟨_, .inr rfl, .inr ⟨rfl, o, z⟩⟩
    · exact absurd h2 (hlst a o h1)
  obtain ⟨ob, hscr, hob⟩ := hob
  obtain ⟨st', hrun⟩ := plain is ob hlen hscr
  rw [calls_code hf] at hrun
  unfold runCode at hrun
  have hal : ([MI.D.loc 0] : List MI.D).length = c.arity := by rw [F.ar, har]; rfl
  rw [if_pos hal] at hrun
  have hres : ∃ st'', evs T.G (calls T.G n).1 (calls T.G n).2 c.body ⟨startF c [.loc 0], capsFrom 1 c.caps⟩ ([ob] ++ c.caps.map fun i => Ob.cell ((startF c [.loc 0])[i]?.join)) = some (.rt (.bl true), st'') := by
    have hrun : endF 1 c.caps.length (ofOut (evs T.G (calls T.G n).1 (calls T.G n).2 c.body ⟨startF c [.loc 0], capsFrom 1 c.caps⟩ ([ob] ++ c.caps.map fun i => Ob.cell ((startF c [.loc 0])[i]?.join)))) = .ok (.bl true) st' := hrun
    cases e : evs T.G (calls T.G n).1 (calls T.G n).2 c.body ⟨startF c [.loc 0], capsFrom 1 c.caps⟩ ([ob] ++ c.caps.map fun i => Ob.cell ((startF c [.loc 0])[i]?.join)) with
    | none => rw [e] at hrun; cases hrun
    | some r =>
      obtain ⟨o, st''⟩ := r
      rw [e] at hrun
      cases o with
      | rt dd => cases hrun; exact ⟨st'', rfl⟩
      | nx fr => cases hrun
      | bk fr => cases hrun
      | ct fr => cases hrun
      | xx x fr => cases hrun
  obtain ⟨st'', hres⟩ := hres
  have e1 : (c.caps.map fun i => Ob.cell ((startF c [.loc 0])[i]?.join)) = (c.caps.map fun i => (startF c [.loc 0])[i]?.join).map .cell := by
    rw [List.map_map]
    rfl
  have cellAt : ∀ i, i ∈ c.caps → ∃ x a, d.N[i]? = some x ∧ d.scope.names.lookup x = some .cell ∧ (cellsFrom (s.heap.objs.size + 1) d.scope.names []).lookup x = some a := fun i hi => by
    obtain ⟨x, h1, h2⟩ := F.cs i hi
    obtain ⟨a, h3⟩ := cell_has (n := s.heap.objs.size + 1) h2
    exact ⟨x, a, h1, h2, h3⟩
  have good : Good (basOf prog wd T K mg base) n (cxOf (L2N.CX prog wd) prog wd K mg base d.N d.qual d.scope fa d.cdv A outer s H E) { (basOf prog wd T K mg base).w with own := ownL 1 c.caps.length } (fun cls da _ H => E cls da H) (cxOf (L2N.CX prog wd) prog wd K mg base d.N d.qual d.scope fa d.cdv A outer s H E).env.locals :=
    ⟨rfl, rfl, rfl, rfl, rfl, ⟨rfl, rfl, rfl, rfl, rfl, rfl, rfl⟩, rfl, F.sc.nd, hroom, thr_of rfl rfl (L2N.takes_of (E := E) rfl rfl rfl rfl), fun l a o hk => False.elim hk⟩
  have bo := hb _ _ _ good rfl rfl rfl rfl
  have C : DCtx T.G (basOf prog wd T K mg base) n lm d.N d.scope (cxOf (L2N.CX prog wd) prog wd K mg base d.N d.qual d.scope fa d.cdv A outer s H E) { (basOf prog wd T K mg base).w with own := ownL 1 c.caps.length } (fun cls da _ H => E cls da H) :=
    ⟨⟨good, rfl, rfl, fun _ => rfl, fun _ => bo.1⟩, rfl, rfl, passes_of rfl, bo.2⟩
  refine ⟨_, (evs_ok hS c.body).2 _ C F.bd, ?_⟩
  have hle : d.ps.length ≤ d.N.length := by
    have := congrArg List.length F.sc.pre
    rw [List.length_take] at this
    omega
  have sr0 : SR { (basOf prog wd T K mg base).w with own := ownL 1 c.caps.length } (⟨[a], H, [ob]⟩ : Cf) := by
    refine ⟨rfl, fun l l' o o' b e1 e2 _ _ _ _ => ?_, fun l o b e1 e2 => ?_, fun p hp => ?_⟩
    · have q1 := lt_of_get e1
      have q2 := lt_of_get e2
      have q1 : l < 1 := q1
      have q2 : l' < 1 := q2
      omega
    · have q1 : l < 1 := lt_of_get e1
      obtain rfl : l = 0 := by omega
      have e1 : ob = o := by simpa using e1
      have e2 : a = b := by simpa using e2
      subst e1 e2
      rcases hob with ⟨rfl, z⟩ | ⟨rfl, o, z⟩
      · exact ⟨_, z, repl_ints is⟩
      · exact ⟨o, _, z, repl_ints is⟩
    · have hp : p ∈ tabT T K := hp
      unfold tabT at hp
      obtain ⟨q, hq, rfl⟩ := List.mem_map.mp hp
      exact LamX.TabS.nil (htab q hq)
  have rep0 : RepL { (basOf prog wd T K mg base).w with own := ownL 1 c.caps.length } [a] H [.loc 0] [.ref a] := .cons (rep_loc.mpr ⟨a, rfl, rfl⟩) RepL.nil
  refine ⟨⟨startF c [.loc 0], capsFrom 1 c.caps⟩, laidC ⟨[a], H, [ob]⟩ (c.caps.map fun i => ((d.N[i]?.bind fun x => (cellsFrom (s.heap.objs.size + 1) d.scope.names []).lookup x)).getD 0) (c.caps.map fun i => (startF c [.loc 0])[i]?.join), rfl, ?_, ?_, ?_⟩
  · refine ⟨?_, fun i e h => ?_, fun i l h => ?_, fun l h => ?_⟩
    · show (startF c [.loc 0]).length = _
      rw [start_len (by show 1 ≤ d.N.length; omega)]
      unfold startF
      have := F.ns
      simp
      omega
    · obtain ⟨v, h1, h2⟩ := rep0.get (startF_get h)
      exact ⟨v, start_get h1, h2.mono (mono_laid (c := ⟨[a], H, [ob]⟩) rfl)⟩
    · obtain ⟨k, h1, rfl⟩ := capsFrom_get h
      obtain ⟨x, b, h2, h3, h4⟩ := cellAt i (List.mem_of_getElem? h1)
      refine ⟨mem_ownL.mpr ⟨by omega, by have := lt_of_get h1; omega⟩, x, b, h2, h4, h3, rfl, ?_, ?_⟩
      · show ([a] ++ _)[1 + k]? = some b
        rw [List.getElem?_append_right (by simp), show 1 + k - [a].length = k by simp, List.getElem?_map, h1]
        simp [h2, h4]
      · show ([ob] ++ _)[1 + k]? = _
        rw [List.getElem?_append_right (by simp), show 1 + k - [ob].length = k by simp, List.getElem?_map, List.getElem?_map, h1]
        rfl
    · obtain ⟨h1, h2⟩ := mem_ownL.mp h
      have hk : l - 1 < c.caps.length := by omega
      exact ⟨c.caps[l - 1], by
        show (capsFrom 1 c.caps).lookup _ = some l
        rw [capsFrom_has F.cn (List.getElem?_eq_getElem hk)]
        congr 1
        omega⟩
  · exact SR.laid sr0 (by simp) fun l h1 h2 => mem_ownL.mpr ⟨h1, by simpa using h2⟩
  · have hres2 : evs T.G (calls T.G n).1 (calls T.G n).2 c.body ⟨startF c [.loc 0], capsFrom 1 c.caps⟩ (laidC ⟨[a], H, [ob]⟩ (c.caps.map fun i => ((d.N[i]?.bind fun x => (cellsFrom (s.heap.objs.size + 1) d.scope.names []).lookup x)).getD 0) (c.caps.map fun i => (startF c [.loc 0])[i]?.join)).st = some (.rt (.bl true), st'') := by
      rw [e1] at hres
      exact hres
    show PostS _ _ _ _ (evs T.G (calls T.G n).1 (calls T.G n).2 c.body ⟨startF c [.loc 0], capsFrom 1 c.caps⟩ _) _
    rw [hres2]
    intro φ H' v _ _ r
    rw [rep_bl.mp r]
    exact hQ H'
end
end MI

set_option Elab.async false
set_option linter.all false
set_option maxRecDepth 100000
set_option maxHeartbeats 8000000
/-! MINI, part 56: the law, told of the heap behind the top. -/
namespace MI
open PySem PySem.Spec PyProof.Rows L2
section
variable {l : PySem.W.OpenLaw} {w : World} {T : TX} {K : PySem.W.Frag} {mg : Str → Option Value} {h : Heap} {fa : Addr} {n f : Nat} {c : MI.Code} {e : DE} {x : Str}
theorem law_atS (S : SayK l.prog T h K) (hns : h.Ns mainGlobals mg) (hfa : mg ("law" : Str) = some (.ref fa)) (hl : T.des.length = T.G.funs.length) (hcl : clsG T.G = true) (hG : ∀ q ∈ T.G.funs.zip T.des, match q.1.fb with
      | .code c => defOkB T.G q.2.N q.2.ps q.2.lam c q.2.st = true
      | .heard _ => hdG q.2 T.hcl = true) (ht : (l.prog.main.scope.names.lookup ("super" : Str)).isSome = false) (hf : T.G.funs[f]? = some ⟨("law", none), .code c⟩) (he : T.des[f]? = some e) (hps : e.ps = [x]) (plain : PlainLaw T.G f n) :
    LamX.LawAtS l w K (L2N.CX l.prog w) (2 * n + 3) 63 x mg fa h := by
  have O := okK_cut S.ok
  have hm : ((⟨("law", none), .code c⟩ : MI.Fn), e) ∈ T.G.funs.zip T.des := List.mem_of_getElem? (i := f) (by rw [List.getElem?_zip_eq_some]; exact ⟨hf, he⟩)
  obtain ⟨_, fd, F⟩ := fun_at S hm
  have efa : ∀ base, (basOf l.prog w T K mg base).w.fa f = He.fAd K (("law", none) : Pth) := fun base => by
    show (match T.G.funs[f]? with | some F => He.fAd K F.path | none => 0) = _
    rw [hf]
  have hglo := He.glo_ok S.kin hns (O.fa (.glo "law") (by
    unfold factsOf
    refine List.mem_append_left _ (List.mem_append_right _ (List.mem_filterMap.mpr ⟨_, List.mem_of_getElem? hf, rfl⟩))))
  have hfa2 : fa = He.fAd K (("law", none) : Pth) := by
    rw [hfa] at hglo
    have := Option.some.inj hglo
    cases this
    rfl
  obtain ⟨d, Fd, eN, es, eq, ec, ep, eb⟩ := fns_of (B := basOf l.prog w T K mg h) F (efa h) rfl (hG _ hm)
  have hcode : e.lam = true → ∃ c0, d.cdv = .ref c0 ∧ (He.cT K (("law", none) : Pth)).1 = c0 := fun hlam => by
    obtain ⟨oc, od, dV, kV, doc, pm, an, cdv, ct, osl, rfl, lk, hcd, _, _⟩ := F.ex
    obtain ⟨c0, e0⟩ := He.codeIn_ref hcd
    exact ⟨c0, by rw [← ec]; exact e0, He.codeOf_eq lk e0⟩
  have hps' : d.ps = [x] := ep.trans hps
  refine ⟨d.fd, (lamP T).map (He.cT K), spLaw T K, fun p hp => ?_, fun p hp => ?_, fun p hp => ?_, fun s u => ?_, fun H a ns hn _ hT hq => ⟨a, ns, rfl, hn, hq, fun p hp => hT _ (List.mem_map.mpr ⟨p, hp, rfl⟩), fun _ => rfl⟩, fun base hKb hnb hT => ?_⟩
  · obtain ⟨q, hq, rfl⟩ := List.mem_map.mp hp
    exact S.emp q hq
  · obtain ⟨q, hq, rfl⟩ := List.mem_map.mp hp
    exact S.out q hq
  · obtain ⟨q, hq, rfl⟩ := List.mem_map.mp hp
    exact PySem.W.codeHd_of_K S.kin (S.hd q hq)
  · have := eb [u] (by rw [hps]; rfl)
    rw [hps] at this
    exact .of_eq this
  · have tb : ∀ p ∈ lamP T, LamX.TabB base mg (He.cT K p).1 (He.cT K p).2 := fun p hp => hT _ (List.mem_map.mpr ⟨p, hp, rfl⟩)
    have X : XcsOk T.G (basOf l.prog w T K mg base) := xcs_of S hns ht
    have S0 : St0 T.G (basOf l.prog w T K mg base) := st0_of S hns hl hcl
    have hS := all_ok S0 (funs_ok S hns hl hG X tb)
    have Fd' : FnS T.G (basOf l.prog w T K mg base) (if e.lam = true then lmB T.G e.N (defScope e.st) else noLm) f c d := ⟨Fd.lk, Fd.cd, Fd.sc, Fd.bi, Fd.ar, Fd.ns, Fd.cn, Fd.cs, Fd.bd⟩
    have hb : BodyOk T.G (basOf l.prog w T K mg base) (if e.lam = true then lmB T.G e.N (defScope e.st) else noLm) n d := body_ok X rfl (fun hlam => by
      obtain ⟨c0, e1, e2⟩ := hcode hlam
      have hp : (("law", none) : Pth) ∈ lamP T := List.mem_filterMap.mpr ⟨_, hm, if_pos hlam⟩
      refine ⟨(He.cT K (("law", none) : Pth)).1, (He.cT K (("law", none) : Pth)).2, by rw [e2]; exact e1, ?_⟩
      rw [eq]
      exact lamTab_of O tb hp) eN es
    have lk := Fd'.lk
    rw [efa base, ← hfa2] at lk
    rw [← hps']
    exact fn_of lk Fd'.cd Fd'.sc (fun vs H Q E hsp => by obtain ⟨a, is, rfl, _⟩ := hsp; rw [hps']; rfl) fun A outer s H vs Q E hr hsp => law_enter (basOf l.prog w T K mg base) rfl (hS n) Fd' hb S.lst hf (by rw [hps']; rfl) plain hr hsp
/-- the law's walk -/
theorem law_walk {q : Program} {loose : List Str} {XP : (Str → Option Value) → Heap → Prop} {d : DefRec} {D : List Str} (hn : l.most = some 63) (hdf : d.params.defaults = []) (hdn : d.name = "law") (hr : Room (2 * n + 3) callerA) (hl : T.des.length = T.G.funs.length) (hcl : clsG T.G = true) (hG : ∀ q ∈ T.G.funs.zip T.des, match q.1.fb with
      | .code c => defOkB T.G q.2.N q.2.ps q.2.lam c q.2.st = true
      | .heard _ => hdG q.2 T.hcl = true) (ht : (l.prog.main.scope.names.lookup ("super" : Str)).isSome = false) (hf : T.G.funs[f]? = some ⟨("law", none), .code c⟩) (he : T.des[f]? = some e) (hps : e.ps = [x]) (plain : PlainLaw T.G f n) :
    PySem.W.WalkO q loose XP (hookK l.prog T D).says l.row.toRowW d [] (fun f vs => PySem.call f vs) := by
  refine LamX.walk_ofTsE (n := 63) (k := 2 * n + 3) (x := x) (CX := fun w => L2N.CX l.prog w) hn (by decide) hdf hr (fun w mg fa h Y hns hfa => ?_) fun w H s e s' c => ?_
  · obtain ⟨K, S⟩ := Y
    rw [hdn] at hfa
    exact ⟨K, S.kin, law_atS S hns hfa hl hcl hG ht hf he hps plain⟩
  · obtain ⟨_, _, _, _, _, _, _, _, _, _, _, _, z⟩ := c
    exact z
end
end MI

set_option Elab.async false
set_option linter.all false
set_option maxRecDepth 100000
set_option maxHeartbeats 0
namespace K82
open PySem PySem.W PySem.Calls PyProof.Rows
theorem run (w : World) : HandSHeadRun.RunEq R (view R.prog [lawAt]) (MI.hookK R.prog tx (MI.deepN tx)) (MI.obG R.prog tx (MI.deepN tx)) 60000 names w := by
  intro os
  have h0 := run0a w os
  have h1 := run0b w os
  have h2 := run1a w os
  have h3 := run1b w os
  have h4 := run2 w os
  show (endS w os).map (fun s => (HandSHeadRun.looksF R.prog (boot_heap w.params) s.abs, HandSHeadRun.seenQ (view R.prog [lawAt]) names (importedModules R.prog.main.body) (fun s => xlAt (view R.prog [lawAt]) [] s && recOk R.toRowW.records s) s.abs, MI.obG R.prog tx (MI.deepN tx) s)) = some (true, openGood (view R.prog [lawAt]) names, MI.vaK tx)
  generalize endS w os = o at h0 h1 h2 h3 h4
  cases o with
  | none => cases h0
  | some s =>
    have h0 := Option.some.inj h0
    have h1 := Option.some.inj h1
    have h2 := Option.some.inj h2
    have h3 := Option.some.inj h3
    have h4 := Option.some.inj h4
    have h5 : (MI.obG R.prog tx (MI.deepN tx) s).1 = true := by
      show (MI.okK R.prog tx _ && _ && _) = true
      rw [Bool.and_assoc, Bool.and_eq_true]
      exact ⟨h2, h3⟩
    have h6 : MI.obG R.prog tx (MI.deepN tx) s = MI.vaK tx := Prod.ext h5 h4
    exact congrArg some (Prod.ext h0 (Prod.ext h1 h6))
theorem allG : ∀ q ∈ tx.G.funs.zip tx.des, match q.1.fb with
      | .code c => MI.defOkB tx.G q.2.N q.2.ps q.2.lam c q.2.st = true
      | .heard _ => MI.hdG q.2 tx.hcl = true := by
  have h : (tx.G.funs.zip tx.des).all (fun q => match q.1.fb with
      | .code c => MI.defOkB tx.G q.2.N q.2.ps q.2.lam c q.2.st
      | .heard _ => MI.hdG q.2 tx.hcl) = true := by decide +kernel
  intro q hq
  have := List.all_eq_true.mp h q hq
  revert this
  cases q.1.fb with
  | code c => exact id
  | heard _ => exact id
theorem holds_of (pLaw : MI.PlainLaw G 37 20) : PySem.Challenge.rw_asoneoffice_k82_keys_as_texts_sign_by_si.Holds := by
  w_on; o_law
  refine HandSHeadRun.head_any (r := R) (q := view R.prog [lawAt]) (H := MI.hookK R.prog tx (MI.deepN tx)) (ob := MI.obG R.prog tx (MI.deepN tx)) (M := 60000) (loose := names) (d := HandSHeadRun.topDef R.prog lawAt) (kwd := []) (fun s => MI.obG_eq s)
    (by kernel_rfl) (fun s => by kernel_rfl) run (by kernel_rfl) (by kernel_rfl) (by kernel_rfl) (by rfl) (by first | assumption | decide +kernel) (by decide +kernel) ⟨rfl, rfl, rfl, rfl, rfl, by decide +kernel⟩ ?hw ?hc
  case hw => w_witness2
  case hc => exact MI.law_walk (l := L) (T := tx) (c := c37) (e := de37) (x := "script") rfl (by kernel_rfl) (by kernel_rfl) ⟨rfl, by decide, by decide⟩ (by decide +kernel) (by decide +kernel) allG (by decide +kernel) rfl rfl rfl pLaw
end K82

set_option Elab.async false
set_option linter.all false
set_option maxRecDepth 100000
set_option maxHeartbeats 4000000
/-! PLAIN, part 1: what a run comes to, by rules. -/
namespace MI.P
open PySem
def Run {α : Type} (m : M α) (st : Store) (Q : α → Store → Prop) (E : Ex → Store → Prop) : Prop := match m st with
  | .ok a st' => Q a st'
  | .ex x st' => E x st'
  | .no => False
def RunS (m : S) (st : Store) (Q : Out → Store → Prop) : Prop := match m st with
  | some (o, st') => Q o st'
  | none => False
section
variable {α β : Type} {st st' : Store} {Q : α → Store → Prop} {E : Ex → Store → Prop}
theorem Run.imp {m : M α} {Q' : α → Store → Prop} {E' : Ex → Store → Prop} (h : Run m st Q E) (k : ∀ a s, Q a s → Q' a s) (k' : ∀ a s, E a s → E' a s) : Run m st Q' E' := by
  unfold Run at *
  cases e : m st with
  | ok a s => rw [e] at h; exact k a s h
  | ex x s => rw [e] at h; exact k' x s h
  | no => rw [e] at h; exact h
theorem RunS.imp {m : S} {Q Q' : Out → Store → Prop} (h : RunS m st Q) (k : ∀ a s, Q a s → Q' a s) : RunS m st Q' := by
  unfold RunS at *
  cases e : m st with
  | some p => rw [e] at h; exact k p.1 p.2 h
  | none => rw [e] at h; exact h
theorem run_bnd (m : M β) (f : β → M α) : Run (bnd m f) st Q E ↔ Run m st (fun a s => Run (f a) s Q E) E := by
  unfold Run bnd
  cases m st <;> exact Iff.rfl
theorem run_ret (a : α) : Run (ret a) st Q E ↔ Q a st := Iff.rfl
theorem run_no : Run no st Q E ↔ False := Iff.rfl
theorem run_grd {Q : Unit → Store → Prop} (b : Bool) : Run (guard b) st Q E ↔ b = true ∧ Q () st := by
  cases b <;> simp [Run, guard]
theorem run_ofO (o : Option α) : Run (ofO o) st Q E ↔ ∃ a, o = some a ∧ Q a st := by
  cases o <;> simp [Run, ofO]
theorem run_eq {m : M α} {a : α} (h : m st = .ok a st') : Run m st Q E ↔ Q a st' := by
  unfold Run
  rw [h]
theorem Run.get {m : M α} (h : Run m st Q fun _ _ => False) : ∃ a s, m st = .ok a s ∧ Q a s := by
  unfold Run at h
  cases e : m st with
  | ok a s => rw [e] at h; exact ⟨a, s, rfl, h⟩
  | ex x s => rw [e] at h; exact h.elim
  | no => rw [e] at h; exact h.elim
theorem runS_ex {m : M α} {fr : Fr} {f : α → S} {Q : Out → Store → Prop} : RunS (exS m fr f) st Q ↔ Run m st (fun a s => RunS (f a) s Q) (fun x s => Q (.xx x fr) s) := by
  unfold RunS exS Run
  cases m st <;> exact Iff.rfl
theorem runS_nx {fr : Fr} {Q : Out → Store → Prop} : RunS (nxS fr) st Q ↔ Q (.nx fr) st := Iff.rfl
theorem runS_out {o : Out} {Q : Out → Store → Prop} : RunS (fun st => some (o, st)) st Q ↔ Q o st := Iff.rfl
end
section
variable {G : GP} {cf : Nat → List D → M D} {cc : Nat → List Nat → List D → M D} {fr : Fr} {st : Store} {Q : Out → Store → Prop}
/-- what comes behind a statement -/
def Then (k : Fr → Store → Prop) (Q : Out → Store → Prop) : Out → Store → Prop
  | .nx fr', s => k fr' s
  | o, s => Q o s
theorem runS_seq {a b : CS} : RunS (evs G cf cc (.seq a b) fr) st Q ↔ RunS (evs G cf cc a fr) st (Then (fun fr' s => RunS (evs G cf cc b fr') s Q) Q) := by
  unfold RunS
  simp only [evs]
  cases e : evs G cf cc a fr st with
  | none => simp
  | some p =>
    obtain ⟨o, s⟩ := p
    cases o <;> simp [Then]
theorem then_nx {k : Fr → Store → Prop} {f : Fr} : Then k Q (.nx f) st = k f st := rfl
theorem then_rt {k : Fr → Store → Prop} {d : D} : Then k Q (.rt d) st = Q (.rt d) st := rfl
theorem then_xx {k : Fr → Store → Prop} {x : Ex} {f : Fr} : Then k Q (.xx x f) st = Q (.xx x f) st := rfl
theorem then_ct {k : Fr → Store → Prop} {f : Fr} : Then k Q (.ct f) st = Q (.ct f) st := rfl
theorem then_bk {k : Fr → Store → Prop} {f : Fr} : Then k Q (.bk f) st = Q (.bk f) st := rfl
end
theorem run_var {i : Nat} {fr : Fr} {st : Store} {Q : D → Store → Prop} {E : Ex → Store → Prop} : Run (fun st => match fr.ρ[i]? with
    | some (some d) => Res.ok d st
    | _ => .no) st Q E ↔ ∃ d, fr.ρ[i]? = some (some d) ∧ Q d st := by
  unfold Run
  cases e : fr.ρ[i]? with
  | none => simp
  | some o => cases o <;> simp
theorem run_tst {d : D} {st : Store} {Q : Bool → Store → Prop} {E : Ex → Store → Prop} : Run (tst d) st Q E ↔ ∃ b, d = .bl b ∧ Q b st := by
  cases d <;> simp [tst, Run, ret, no]
/-! ### the store -/
/-- only the places of S may change, more may come -/
def Fx (S : List Nat) (st st' : Store) : Prop := st.length ≤ st'.length ∧ ∀ l, l < st.length → l ∉ S → st'[l]? = st[l]?
theorem Fx.refl {S : List Nat} (st : Store) : Fx S st st := ⟨Nat.le_refl _, fun _ _ _ => rfl⟩
theorem Fx.trans {S : List Nat} {a b c : Store} (h : Fx S a b) (k : Fx S b c) : Fx S a c := ⟨Nat.le_trans h.1 k.1, fun l hl hs => (k.2 l (Nat.lt_of_lt_of_le hl h.1) hs).trans (h.2 l hl hs)⟩
theorem Fx.app {S : List Nat} (st j : Store) : Fx S st (st ++ j) := ⟨by simp, fun l hl _ => List.getElem?_append_left hl⟩
theorem Fx.wide {S S' : List Nat} {a b : Store} (h : Fx S a b) (k : ∀ l, l ∈ S → l ∈ S') : Fx S' a b := ⟨h.1, fun l hl hs => h.2 l hl fun z => hs (k l z)⟩
theorem Fx.none {S : List Nat} {a b : Store} (h : Fx [] a b) : Fx S a b := h.wide fun l z => by cases z
theorem Fx.get {S : List Nat} {a b : Store} (h : Fx S a b) {l : Nat} {o : Ob} (e : a[l]? = some o) (hs : l ∉ S) : b[l]? = some o := by
  rw [h.2 l (List.getElem?_eq_some_iff.mp e).1 hs]
  exact e
theorem Fx.set {S : List Nat} {st : Store} {l : Nat} {o : Ob} (h : l ∈ S) : Fx S st (st.set l o) := ⟨by simp, fun k _ hs => List.getElem?_set_ne (by rintro rfl; exact hs h)⟩
/-- places beyond the first store's end may change -/
theorem Fx.new {S : List Nat} {a b c : Store} (h : Fx S a b) {S' : List Nat} (k : Fx S' b c) (hs : ∀ l, l ∈ S' → a.length ≤ l ∨ l ∈ S) : Fx S a c := ⟨Nat.le_trans h.1 k.1, fun l hl hn => (k.2 l (Nat.lt_of_lt_of_le hl h.1) fun z => by
  rcases hs l z with q | q
  · omega
  · exact hn q).trans (h.2 l hl hn)⟩
/-! ### calls -/
section
variable {G : GP} {n f : Nat} {p : Str × Option Str} {c : MI.Code} {as : List D} {st : Store} {Q : D → Store → Prop} {E : Ex → Store → Prop}
def Ended (Q : D → Store → Prop) (E : Ex → Store → Prop) : Out → Store → Prop
  | .nx _, s => Q .non s
  | .rt d, s => Q d s
  | .xx x _, s => E x s
  | _, _ => False
theorem ended_nx {f : Fr} : Ended Q E (.nx f) st = Q .non st := rfl
theorem ended_rt {d : D} : Ended Q E (.rt d) st = Q d st := rfl
theorem ended_xx {x : Ex} {f : Fr} : Ended Q E (.xx x f) st = E x st := rfl
theorem ended_ct {f : Fr} : Ended Q E (.ct f) st = False := rfl
theorem ended_bk {f : Fr} : Ended Q E (.bk f) st = False := rfl
/-- a def without cells -/
theorem run_def (hf : G.funs[f]? = some ⟨p, .code c⟩) (hc : c.caps = []) : Run ((calls G (n + 1)).1 f as) st Q E ↔ as.length = c.arity ∧ RunS (evs G (calls G n).1 (calls G n).2 c.body ⟨startF c as, []⟩) st (Ended Q E) := by
  have e : (calls G (n + 1)).1 f = runCode G (calls G n).1 (calls G n).2 c := by
    funext as
    simp only [calls, hf]
  rw [e]
  unfold Run runCode
  by_cases h : as.length = c.arity
  · rw [if_pos h, hc]
    simp only [h, true_and, List.map_nil, List.append_nil, List.length_nil, capsFrom]
    unfold RunS
    cases evs G (calls G n).1 (calls G n).2 c.body ⟨startF c as, []⟩ st with
    | none => exact Iff.rfl
    | some r =>
      obtain ⟨o, s⟩ := r
      cases o <;> exact Iff.rfl
  · rw [if_neg h]
    simp [h]
/-- a def with cells: they are dead at its end -/
theorem run_defC (hf : G.funs[f]? = some ⟨p, .code c⟩) : Run ((calls G (n + 1)).1 f as) st Q E ↔ as.length = c.arity ∧ RunS (evs G (calls G n).1 (calls G n).2 c.body ⟨startF c as, capsFrom st.length c.caps⟩) (st ++ c.caps.map fun i => Ob.cell ((startF c as)[i]?.join)) (Ended (fun d s => Q d (killC s st.length c.caps.length)) fun x s => E x (killC s st.length c.caps.length)) := by
  have e : (calls G (n + 1)).1 f = runCode G (calls G n).1 (calls G n).2 c := by
    funext as
    simp only [calls, hf]
  rw [e]
  unfold Run runCode
  by_cases h : as.length = c.arity
  · rw [if_pos h]
    simp only [h, true_and]
    unfold RunS
    cases evs G (calls G n).1 (calls G n).2 c.body ⟨startF c as, capsFrom st.length c.caps⟩ (st ++ c.caps.map fun i => Ob.cell ((startF c as)[i]?.join)) with
    | none => exact Iff.rfl
    | some r =>
      obtain ⟨o, s⟩ := r
      cases o <;> exact Iff.rfl
  · rw [if_neg h]
    simp [h]
end
end MI.P

set_option Elab.async false
set_option linter.all false
set_option maxRecDepth 100000
set_option maxHeartbeats 4000000
/-! PLAIN, part 2: the nodes, one by one. -/
namespace MI.P
open PySem
def onTup {α : Type} (y : D) (f : List D → M α) : M α := match y with
  | .tup ys => f ys
  | _ => no
theorem onTup_tup {α : Type} {ys : List D} {f : List D → M α} : onTup (.tup ys) f = f ys := rfl
section
variable {G : GP} {cf : Nat → List D → M D} {cc : Nat → List Nat → List D → M D} {fr : Fr} {st st' : Store} {Q : D → Store → Prop} {E : Ex → Store → Prop} {a b c : CE} {R : Out → Store → Prop} {s1 s2 : CS}
theorem e_var {i : Nat} : Run (ev G cf cc (.var i) fr) st Q E ↔ ∃ d, fr.ρ[i]? = some (some d) ∧ Q d st := by
  simp only [ev]
  exact run_var
theorem e_c {d : D} : Run (ev G cf cc (.c d) fr) st Q E ↔ Q d st := Iff.rfl
theorem e_gv {x : Str} {d : D} : Run (ev G cf cc (.gv x d) fr) st Q E ↔ Q d st := Iff.rfl
theorem e_bin {op : Bop} : Run (ev G cf cc (.bin op a b) fr) st Q E ↔ Run (ev G cf cc a fr) st (fun x s => Run (ev G cf cc b fr) s (fun y s => Run (binop op x y) s Q E) E) E := by
  simp only [ev, run_bnd]
theorem e_cmp {op : Cop} : Run (ev G cf cc (.cmp op a b) fr) st Q E ↔ Run (ev G cf cc a fr) st (fun x s => Run (ev G cf cc b fr) s (fun y s => Run (cmpop op x y) s Q E) E) E := by
  simp only [ev, run_bnd]
theorem e_chain {op op' : Cop} : Run (ev G cf cc (.chain op op' a b c) fr) st Q E ↔ Run (ev G cf cc a fr) st (fun x s => Run (ev G cf cc b fr) s (fun y s => Run (cmpop op x y) s (fun z s => ∃ t, z = .bl t ∧ (t = true → Run (ev G cf cc c fr) s (fun u s => Run (cmpop op' y u) s Q E) E) ∧ (t = false → Q (.bl false) s)) E) E) E := by
  simp only [ev, run_bnd]
  refine iff_of_eq (congrArg (fun k => Run (ev G cf cc a fr) st k E) (funext fun x => funext fun s => congrArg (fun k => Run (ev G cf cc b fr) s k E) (funext fun y => funext fun s => congrArg (fun k => Run (cmpop op x y) s k E) (funext fun z => funext fun s => propext ?_))))
  rw [run_tst]
  constructor
  · rintro ⟨t, rfl, h⟩
    cases t <;> simp_all [run_bnd, run_ret]
  · rintro ⟨t, rfl, h1, h2⟩
    cases t <;> simp_all [run_bnd, run_ret]
theorem e_neg : Run (ev G cf cc (.neg a) fr) st Q E ↔ Run (ev G cf cc a fr) st (fun x s => ∃ i, x = .int i ∧ Q (.int (-i)) s) E := by
  simp only [ev, run_bnd]
  refine iff_of_eq (congrArg (fun k => Run (ev G cf cc a fr) st k E) (funext fun x => funext fun s => propext ?_))
  cases x <;> simp [Run, ret, no]
theorem e_not : Run (ev G cf cc (.not a) fr) st Q E ↔ Run (ev G cf cc a fr) st (fun x s => ∃ t, x = .bl t ∧ Q (.bl (!t)) s) E := by
  simp only [ev, run_bnd, run_tst, run_ret]
theorem e_and : Run (ev G cf cc (.and a b) fr) st Q E ↔ Run (ev G cf cc a fr) st (fun x s => ∃ t, x = .bl t ∧ (t = true → Run (ev G cf cc b fr) s Q E) ∧ (t = false → Q (.bl false) s)) E := by
  simp only [ev, run_bnd, run_tst]
  refine iff_of_eq (congrArg (fun k => Run (ev G cf cc a fr) st k E) (funext fun x => funext fun s => propext ⟨?_, ?_⟩))
  · rintro ⟨t, rfl, h⟩
    cases t <;> simp_all [run_ret]
  · rintro ⟨t, rfl, h1, h2⟩
    cases t <;> simp_all [run_ret]
theorem e_or : Run (ev G cf cc (.or a b) fr) st Q E ↔ Run (ev G cf cc a fr) st (fun x s => ∃ t, x = .bl t ∧ (t = true → Q (.bl true) s) ∧ (t = false → Run (ev G cf cc b fr) s Q E)) E := by
  simp only [ev, run_bnd, run_tst]
  refine iff_of_eq (congrArg (fun k => Run (ev G cf cc a fr) st k E) (funext fun x => funext fun s => propext ⟨?_, ?_⟩))
  · rintro ⟨t, rfl, h⟩
    cases t <;> simp_all [run_ret]
  · rintro ⟨t, rfl, h1, h2⟩
    cases t <;> simp_all [run_ret]
theorem e_ife : Run (ev G cf cc (.ife c a b) fr) st Q E ↔ Run (ev G cf cc c fr) st (fun x s => ∃ t, x = .bl t ∧ (t = true → Run (ev G cf cc a fr) s Q E) ∧ (t = false → Run (ev G cf cc b fr) s Q E)) E := by
  simp only [ev, run_bnd, run_tst]
  refine iff_of_eq (congrArg (fun k => Run (ev G cf cc c fr) st k E) (funext fun x => funext fun s => propext ⟨?_, ?_⟩))
  · rintro ⟨t, rfl, h⟩
    cases t <;> simp_all
  · rintro ⟨t, rfl, h1, h2⟩
    cases t <;> simp_all
theorem e_nil : Run (ev G cf cc .nil fr) st Q E ↔ Q (.tup []) st := Iff.rfl
theorem e_cons : Run (ev G cf cc (.cons a b) fr) st Q E ↔ Run (ev G cf cc a fr) st (fun x s => Run (ev G cf cc b fr) s (fun y s => Run (consD x y) s Q E) E) E := by
  simp only [ev, run_bnd]
  rfl
theorem e_consT {z : Str} : Run (ev G cf cc (.consT z b) fr) st Q E ↔ Run (ev G cf cc b fr) st (fun y s => Run (consD (.str z) y) s Q E) E := by
  simp only [ev, run_bnd, run_ret]
theorem e_consU : Run (ev G cf cc (.consU a b) fr) st Q E ↔ Run (ev G cf cc a fr) st (fun x s => Run (ev G cf cc b fr) s (fun y s => Run (consD x y) s Q E) E) E := by
  simp only [ev, run_bnd]
theorem e_rep {y z : Str} : Run (ev G cf cc (.rep a y z b) fr) st Q E ↔ Run (ev G cf cc a fr) st (fun x s => Run (repD y z x) s (fun x s => Run (ev G cf cc b fr) s (fun y s => Run (consD x y) s Q E) E) E) E := by
  simp only [ev, run_bnd]
theorem r_cons {x : D} {ys : List D} : Run (consD x (.tup ys)) st Q E ↔ Q (.tup (x :: ys)) st := Iff.rfl
theorem e_tup : Run (ev G cf cc (.tup a) fr) st Q E ↔ Run (ev G cf cc a fr) st (fun y s => ∃ ys, y = .tup ys ∧ ys.length ≤ sizeLine ∧ Q (.tup ys) s) E := by
  simp only [ev, run_bnd]
  refine iff_of_eq (congrArg (fun k => Run (ev G cf cc a fr) st k E) (funext fun x => funext fun s => propext ?_))
  cases x <;> simp [run_no, run_bnd, run_grd, run_ret]
theorem r_alloc {o : Ob} : Run (alloc o) st Q E ↔ Q (.loc st.length) (st ++ [o]) := Iff.rfl
theorem e_lst : Run (ev G cf cc (.lst a) fr) st Q E ↔ Run (ev G cf cc a fr) st (fun y s => ∃ ys, y = .tup ys ∧ ys.length ≤ sizeLine ∧ Q (.loc s.length) (s ++ [.lst ys])) E := by
  simp only [ev, run_bnd]
  refine iff_of_eq (congrArg (fun k => Run (ev G cf cc a fr) st k E) (funext fun x => funext fun s => propext ?_))
  cases x <;> simp [run_no, run_bnd, run_grd, r_alloc]
theorem e_idx : Run (ev G cf cc (.idx a b) fr) st Q E ↔ Run (ev G cf cc a fr) st (fun x s => Run (ev G cf cc b fr) s (fun y s => Run (idxD x y) s Q E) E) E := by
  simp only [ev, run_bnd]
theorem e_part : Run (ev G cf cc (.part a) fr) st Q E ↔ Run (ev G cf cc a fr) st (fun x s => ∃ i, x = .int i ∧ Q (.int i) s) E := by
  simp only [ev, run_bnd]
  refine iff_of_eq (congrArg (fun k => Run (ev G cf cc a fr) st k E) (funext fun x => funext fun s => propext ?_))
  cases x <;> simp [Run, ret, no]
theorem e_sl : Run (ev G cf cc (.sl a b c) fr) st Q E ↔ Run (ev G cf cc a fr) st (fun x s => Run (ev G cf cc b fr) s (fun l s => Run (ev G cf cc c fr) s (fun h s => Run (sliD x l h) s Q E) E) E) E := by
  simp only [ev, run_bnd]
theorem e_attr {f : Str} : Run (ev G cf cc (.attr a f) fr) st Q E ↔ Run (ev G cf cc a fr) st (fun x s => Run (attrD G x f) s Q E) E := by
  simp only [ev, run_bnd]
theorem e_call {x : Str} {f : Nat} : Run (ev G cf cc (.call x f a) fr) st Q E ↔ Run (ev G cf cc a fr) st (fun y s => ∃ ys, y = .tup ys ∧ Run (cf f ys) s Q E) E := by
  simp only [ev, run_bnd]
  refine iff_of_eq (congrArg (fun k => Run (ev G cf cc a fr) st k E) (funext fun x => funext fun s => propext ?_))
  cases x <;> simp [run_no]
theorem e_make {x : Str} {k : Nat} : Run (ev G cf cc (.make x k a) fr) st Q E ↔ Run (ev G cf cc a fr) st (fun y s => ∃ ys, y = .tup ys ∧ Run (makeD G cf k ys) s Q E) E := by
  simp only [ev, run_bnd]
  refine iff_of_eq (congrArg (fun k => Run (ev G cf cc a fr) st k E) (funext fun x => funext fun s => propext ?_))
  cases x <;> simp [run_no]
theorem e_meth {m : Str} : Run (ev G cf cc (.meth a m b) fr) st Q E ↔ Run (ev G cf cc a fr) st (fun x s => Run (methOk G x m) s (fun _ s => Run (ev G cf cc b fr) s (fun y s => ∃ ys, y = .tup ys ∧ Run (methD G cf x m ys) s Q E) E) E) E := by
  simp only [ev, run_bnd]
  refine iff_of_eq (congrArg (fun k => Run (ev G cf cc a fr) st k E) (funext fun x => funext fun s => congrArg (fun k => Run (methOk G x m) s k E) (funext fun _ => funext fun s => congrArg (fun k => Run (ev G cf cc b fr) s k E) (funext fun y => funext fun s => propext ?_))))
  cases y <;> simp [run_no]
theorem e_bi {k : Bi} : Run (ev G cf cc (.bi k a) fr) st Q E ↔ Run (ev G cf cc a fr) st (fun y s => ∃ ys, y = .tup ys ∧ Run (biop k ys) s Q E) E := by
  simp only [ev, run_bnd]
  refine iff_of_eq (congrArg (fun k => Run (ev G cf cc a fr) st k E) (funext fun x => funext fun s => propext ?_))
  cases x <;> simp [run_no]
theorem e_isi {T : Ty} : Run (ev G cf cc (.isi a T) fr) st Q E ↔ Run (ev G cf cc a fr) st (fun x s => Run (isiD x T) s Q E) E := by
  simp only [ev, run_bnd]
theorem e_yes : Run (ev G cf cc .yes fr) st Q E ↔ Q (.bl true) st := Iff.rfl
theorem e_lam {k : Nat} {caps : List Nat} : Run (ev G cf cc (.lam k caps) fr) st Q E ↔ ∃ ls, capsL fr.cp caps = some ls ∧ Q (.clo k ls) st := by
  simp only [ev]
  cases capsL fr.cp caps <;> simp [run_no, run_ret]
/-- a comprehension's turn -/
noncomputable def lcT (G : GP) (cf : Nat → List D → M D) (cc : Nat → List Nat → List D → M D) (tg : Tg) (cond elt : CE) (ρ : List (Option D)) : D → M (Option D) := fun d => bnd (bindT tg d { ρ := wipeL ρ tg.slots, cp := [] }) fun fr' => bnd (ev G cf cc cond fr') fun z => bnd (tst z) fun t => match t with
      | true => bnd (ev G cf cc elt fr') fun w => ret (some w)
      | false => ret none
theorem e_lc {k : Ik} {tg : Tg} {cond elt : CE} : Run (ev G cf cc (.lc k a b tg cond elt) fr) st Q E ↔ Run (ev G cf cc a fr) st (fun x s => Run (ev G cf cc b fr) s (fun y s => Run (itOf k x y) s (fun it s => it.1.length ≤ sizeLine ∧ Run (lcGo (lcT G cf cc tg cond elt fr.ρ) (chk it.2) it.1) s (fun ds s => Q (.loc s.length) (s ++ [.lst ds])) E) E) E) E := by
  simp only [ev, run_bnd, run_grd, decide_eq_true_eq, r_alloc]
  rfl
/-! ### statements -/
theorem t_skip : RunS (evs G cf cc .skip fr) st R ↔ R (.nx fr) st := Iff.rfl
theorem t_asg {t : Tg} : RunS (evs G cf cc (.asg t a) fr) st R ↔ Run (ev G cf cc a fr) st (fun d s => Run (bindT t d fr) s (fun fr' s => R (.nx fr') s) (fun x s => R (.xx x fr) s)) (fun x s => R (.xx x fr) s) := by
  simp only [evs, runS_ex, run_bnd, runS_nx]
theorem t_setf {f : Str} : RunS (evs G cf cc (.setf a f b) fr) st R ↔ Run (ev G cf cc b fr) st (fun d s => Run (ev G cf cc a fr) s (fun x s => Run (setfD G x f d) s (fun _ s => R (.nx fr) s) (fun x s => R (.xx x fr) s)) (fun x s => R (.xx x fr) s)) (fun x s => R (.xx x fr) s) := by
  simp only [evs, runS_ex, run_bnd, runS_nx]
theorem t_augf {f : Str} {op : Bop} : RunS (evs G cf cc (.augf a f op b) fr) st R ↔ Run (ev G cf cc a fr) st (fun x s => Run (attrD G x f) s (fun y s => Run (ev G cf cc b fr) s (fun z s => Run (augop op y z) s (fun d s => Run (setfD G x f d) s (fun _ s => R (.nx fr) s) (fun x s => R (.xx x fr) s)) (fun x s => R (.xx x fr) s)) (fun x s => R (.xx x fr) s)) (fun x s => R (.xx x fr) s)) (fun x s => R (.xx x fr) s) := by
  simp only [evs, runS_ex, run_bnd, runS_nx]
theorem t_aug {i : Nat} {op : Bop} : RunS (evs G cf cc (.aug i op a) fr) st R ↔ ∃ x, fr.ρ[i]?.join = some x ∧ Run (ev G cf cc a fr) st (fun y s => Run (augop op x y) s (fun z s => Run (fr.set i z) s (fun fr' s => R (.nx fr') s) (fun x s => R (.xx x fr) s)) (fun x s => R (.xx x fr) s)) (fun x s => R (.xx x fr) s) := by
  simp only [evs, runS_ex, run_bnd, runS_nx, run_ofO]
theorem t_seti : RunS (evs G cf cc (.seti a b c) fr) st R ↔ Run (ev G cf cc c fr) st (fun d s => Run (ev G cf cc a fr) s (fun x s => Run (ev G cf cc b fr) s (fun k s => Run (setiD x k d) s (fun _ s => R (.nx fr) s) (fun x s => R (.xx x fr) s)) (fun x s => R (.xx x fr) s)) (fun x s => R (.xx x fr) s)) (fun x s => R (.xx x fr) s) := by
  simp only [evs, runS_ex, run_bnd, runS_nx]
theorem t_exp : RunS (evs G cf cc (.ex a) fr) st R ↔ Run (ev G cf cc a fr) st (fun _ s => R (.nx fr) s) (fun x s => R (.xx x fr) s) := by
  simp only [evs, runS_ex, runS_nx]
theorem t_ite : RunS (evs G cf cc (.ite a s1 s2) fr) st R ↔ Run (ev G cf cc a fr) st (fun x s => ∃ t, x = .bl t ∧ (t = true → RunS (evs G cf cc s1 fr) s R) ∧ (t = false → RunS (evs G cf cc s2 fr) s R)) (fun x s => R (.xx x fr) s) := by
  simp only [evs, runS_ex, run_bnd, run_tst]
  refine iff_of_eq (congrArg (fun k => Run (ev G cf cc a fr) st k _) (funext fun x => funext fun s => propext ⟨?_, ?_⟩))
  · rintro ⟨t, rfl, h⟩
    cases t <;> simp_all
  · rintro ⟨t, rfl, h1, h2⟩
    cases t <;> simp_all
theorem t_ret : RunS (evs G cf cc (.ret a) fr) st R ↔ Run (ev G cf cc a fr) st (fun d s => R (.rt d) s) (fun x s => R (.xx x fr) s) := by
  simp only [evs, runS_ex, runS_out]
theorem t_retn : RunS (evs G cf cc .retn fr) st R ↔ R (.rt .non) st := Iff.rfl
theorem t_raise {x : Str} {k : Nat} : RunS (evs G cf cc (.raise x k a) fr) st R ↔ Run (ev G cf cc a fr) st (fun y s => ∃ d, y = .tup [d] ∧ R (.xx ⟨k, d⟩ fr) s) (fun x s => R (.xx x fr) s) := by
  simp only [evs, runS_ex]
  refine iff_of_eq (congrArg (fun k => Run (ev G cf cc a fr) st k _) (funext fun y => funext fun s => propext ?_))
  cases y with
  | tup ds =>
    match ds with
    | [] => simp [RunS]
    | [d] => simp [RunS]
    | d :: e :: r => simp [RunS]
  | _ => simp [RunS]
theorem t_for {k : Ik} {tg : Tg} : RunS (evs G cf cc (.for k a b tg s1) fr) st R ↔ Run (ev G cf cc a fr) st (fun x s => Run (ev G cf cc b fr) s (fun y s => Run (itOf k x y) s (fun it s => RunS (forGo (chk it.2) (fun d fr1 => exS (bindT tg d fr1) fr1 fun fr2 => evs G cf cc s1 fr2) it.1 fr) s R) (fun x s => R (.xx x fr) s)) (fun x s => R (.xx x fr) s)) (fun x s => R (.xx x fr) s) := by
  simp only [evs, runS_ex, run_bnd]
end
/-! ### primitive steps -/
section
variable {st st' : Store} {E : Ex → Store → Prop} {G : GP}
theorem p_isiD {d : D} {T : Ty} {v : D} {Q : D → Store → Prop} (h : isiD d T st = .ok v st') (k : Q v st') : Run (isiD d T) st Q E := (run_eq h).mpr k
theorem p_cmpop {op : Cop} {a b : D} {v : D} {Q : D → Store → Prop} (h : cmpop op a b st = .ok v st') (k : Q v st') : Run (cmpop op a b) st Q E := (run_eq h).mpr k
theorem p_binop {op : Bop} {a b : D} {v : D} {Q : D → Store → Prop} (h : binop op a b st = .ok v st') (k : Q v st') : Run (binop op a b) st Q E := (run_eq h).mpr k
theorem p_consD {a b : D} {v : D} {Q : D → Store → Prop} (h : consD a b st = .ok v st') (k : Q v st') : Run (consD a b) st Q E := (run_eq h).mpr k
theorem p_biop {b : Bi} {as : List D} {v : D} {Q : D → Store → Prop} (h : biop b as st = .ok v st') (k : Q v st') : Run (biop b as) st Q E := (run_eq h).mpr k
theorem p_idxD {a b : D} {v : D} {Q : D → Store → Prop} (h : idxD a b st = .ok v st') (k : Q v st') : Run (idxD a b) st Q E := (run_eq h).mpr k
theorem p_sliD {a b c : D} {v : D} {Q : D → Store → Prop} (h : sliD a b c st = .ok v st') (k : Q v st') : Run (sliD a b c) st Q E := (run_eq h).mpr k
theorem p_augop {op : Bop} {a b : D} {v : D} {Q : D → Store → Prop} (h : augop op a b st = .ok v st') (k : Q v st') : Run (augop op a b) st Q E := (run_eq h).mpr k
theorem p_setiD {a b c : D} {v : Unit} {Q : Unit → Store → Prop} (h : setiD a b c st = .ok v st') (k : Q v st') : Run (setiD a b c) st Q E := (run_eq h).mpr k
theorem p_srcOf {a : D} {v : (List D × List (Nat × List D))} {Q : (List D × List (Nat × List D)) → Store → Prop} (h : srcOf a st = .ok v st') (k : Q v st') : Run (srcOf a) st Q E := (run_eq h).mpr k
theorem p_repD {y z : Str} {a : D} {v : D} {Q : D → Store → Prop} (h : repD y z a st = .ok v st') (k : Q v st') : Run (repD y z a) st Q E := (run_eq h).mpr k
theorem p_attrD {x : D} {f : Str} {v : D} {Q : D → Store → Prop} (h : attrD G x f st = .ok v st') (k : Q v st') : Run (attrD G x f) st Q E := (run_eq h).mpr k
theorem p_methOk {x : D} {m : Str} {v : Unit} {Q : Unit → Store → Prop} (h : methOk G x m st = .ok v st') (k : Q v st') : Run (methOk G x m) st Q E := (run_eq h).mpr k
theorem p_setfD {x d : D} {f : Str} {v : Unit} {Q : Unit → Store → Prop} (h : setfD G x f d st = .ok v st') (k : Q v st') : Run (setfD G x f d) st Q E := (run_eq h).mpr k
theorem p_bindT {t : Tg} {d : D} {fr fr' : Fr} {Q : Fr → Store → Prop} (h : bindT t d fr st = .ok fr' st') (k : Q fr' st') : Run (bindT t d fr) st Q E := (run_eq h).mpr k
theorem p_itOf {i : Ik} {x y : D} {v : List D × List (Nat × List D)} {Q : (List D × List (Nat × List D)) → Store → Prop} (h : itOf i x y st = .ok v st') (k : Q v st') : Run (itOf i x y) st Q E := (run_eq h).mpr k
theorem g_isiD {d : D} {T : Ty} {Q : D → Store → Prop} (h : Run (isiD d T) st Q E) : Run (isiD d T) st Q E := h
theorem g_cmpop {op : Cop} {a b : D} {Q : D → Store → Prop} (h : Run (cmpop op a b) st Q E) : Run (cmpop op a b) st Q E := h
theorem g_binop {op : Bop} {a b : D} {Q : D → Store → Prop} (h : Run (binop op a b) st Q E) : Run (binop op a b) st Q E := h
theorem g_consD {a b : D} {Q : D → Store → Prop} (h : Run (consD a b) st Q E) : Run (consD a b) st Q E := h
theorem g_biop {b : Bi} {as : List D} {Q : D → Store → Prop} (h : Run (biop b as) st Q E) : Run (biop b as) st Q E := h
theorem g_idxD {a b : D} {Q : D → Store → Prop} (h : Run (idxD a b) st Q E) : Run (idxD a b) st Q E := h
theorem g_sliD {a b c : D} {Q : D → Store → Prop} (h : Run (sliD a b c) st Q E) : Run (sliD a b c) st Q E := h
theorem g_augop {op : Bop} {a b : D} {Q : D → Store → Prop} (h : Run (augop op a b) st Q E) : Run (augop op a b) st Q E := h
theorem g_setiD {a b c : D} {Q : Unit → Store → Prop} (h : Run (setiD a b c) st Q E) : Run (setiD a b c) st Q E := h
theorem g_srcOf {a : D} {Q : (List D × List (Nat × List D)) → Store → Prop} (h : Run (srcOf a) st Q E) : Run (srcOf a) st Q E := h
theorem g_repD {y z : Str} {a : D} {Q : D → Store → Prop} (h : Run (repD y z a) st Q E) : Run (repD y z a) st Q E := h
theorem g_attrD {x : D} {f : Str} {Q : D → Store → Prop} (h : Run (attrD G x f) st Q E) : Run (attrD G x f) st Q E := h
theorem g_methOk {x : D} {m : Str} {Q : Unit → Store → Prop} (h : Run (methOk G x m) st Q E) : Run (methOk G x m) st Q E := h
theorem g_setfD {x d : D} {f : Str} {Q : Unit → Store → Prop} (h : Run (setfD G x f d) st Q E) : Run (setfD G x f d) st Q E := h
theorem g_bindT {t : Tg} {d : D} {fr : Fr} {Q : Fr → Store → Prop} (h : Run (bindT t d fr) st Q E) : Run (bindT t d fr) st Q E := h
theorem g_itOf {x y : D} {Q : (List D × List (Nat × List D)) → Store → Prop} (h : Run (itOf .seq x y) st Q E) : Run (itOf .seq x y) st Q E := h
theorem k_nx {k : Fr → Store → Prop} {R : Out → Store → Prop} {f : Fr} (h : k f st) : Then k R (.nx f) st := h
theorem k_rt {k : Fr → Store → Prop} {R : Out → Store → Prop} {d : D} (h : R (.rt d) st) : Then k R (.rt d) st := h
theorem k_xx {k : Fr → Store → Prop} {R : Out → Store → Prop} {x : Ex} {f : Fr} (h : R (.xx x f) st) : Then k R (.xx x f) st := h
theorem q_nx {Q : D → Store → Prop} {f : Fr} (h : Q .non st) : Ended Q E (.nx f) st := h
theorem q_rt {Q : D → Store → Prop} {d : D} (h : Q d st) : Ended Q E (.rt d) st := h
theorem q_xx {Q : D → Store → Prop} {x : Ex} {f : Fr} (h : E x st) : Ended Q E (.xx x f) st := h
end
section
variable {A B : Prop} {b : Bool} {p : Prop} {dp : Decidable p}
theorem br_t (h : A) : ∃ t, D.bl true = D.bl t ∧ (t = true → A) ∧ (t = false → B) := ⟨true, rfl, fun _ => h, fun z => Bool.noConfusion z⟩
theorem br_f (h : B) : ∃ t, D.bl false = D.bl t ∧ (t = true → A) ∧ (t = false → B) := ⟨false, rfl, fun z => Bool.noConfusion z, fun _ => h⟩
theorem br_n (h1 : b = false → A) (h2 : b = true → B) : ∃ t, D.bl (!b) = D.bl t ∧ (t = true → A) ∧ (t = false → B) := ⟨_, rfl, fun z => h1 (by cases b <;> first | rfl | cases z), fun z => h2 (by cases b <;> first | rfl | cases z)⟩
theorem br_d (h1 : p → A) (h2 : ¬ p → B) : ∃ t, D.bl (decide p) = D.bl t ∧ (t = true → A) ∧ (t = false → B) := ⟨_, rfl, fun z => h1 (of_decide_eq_true z), fun z => h2 (of_decide_eq_false z)⟩
theorem br_nd (h1 : ¬ p → A) (h2 : p → B) : ∃ t, D.bl (!decide p) = D.bl t ∧ (t = true → A) ∧ (t = false → B) := br_n (fun z => h1 (of_decide_eq_false z)) fun z => h2 (of_decide_eq_true z)
theorem br_b (h1 : b = true → A) (h2 : b = false → B) : ∃ t, D.bl b = D.bl t ∧ (t = true → A) ∧ (t = false → B) := ⟨_, rfl, h1, h2⟩
end
theorem br_g {x : D} {A B : Prop} (h : ∃ t, x = D.bl t ∧ (t = true → A) ∧ (t = false → B)) : ∃ t, x = D.bl t ∧ (t = true → A) ∧ (t = false → B) := h
theorem ex_tup {ys : List D} {P : List D → Prop} (h : ys.length ≤ sizeLine) (k : P ys) : ∃ zs, D.tup ys = D.tup zs ∧ zs.length ≤ sizeLine ∧ P zs := ⟨ys, rfl, h, k⟩
/-- a def without cells, its first frame written out -/
theorem rd_def {G : GP} {n f : Nat} {p : Str × Option Str} {c : MI.Code} {as : List D} {st : Store} {Q : D → Store → Prop} {E : Ex → Store → Prop} {body : CS} (ρ : List (Option D)) (hf : G.funs[f]? = some ⟨p, .code c⟩) (hc : c.caps = []) (hl : as.length = c.arity) (hρ : startF c as = ρ) (hb : c.body = body)
    (h : RunS (evs G (calls G n).1 (calls G n).2 body ⟨ρ, []⟩) st (Ended Q E)) : Run ((calls G (n + 1)).1 f as) st Q E := by
  refine (run_def hf hc).mpr ⟨hl, ?_⟩
  rw [hρ, hb]
  exact h
/-- with cells -/
theorem rd_defC {G : GP} {n f : Nat} {p : Str × Option Str} {c : MI.Code} {as : List D} {st : Store} {Q : D → Store → Prop} {E : Ex → Store → Prop} {body : CS} (ρ : List (Option D)) (cp : List (Nat × Nat)) (cs : Store) (hf : G.funs[f]? = some ⟨p, .code c⟩) (hl : as.length = c.arity) (hρ : startF c as = ρ) (hb : c.body = body) (hcp : capsFrom st.length c.caps = cp) (hcs : (c.caps.map fun i => Ob.cell ((startF c as)[i]?.join)) = cs)
    (h : RunS (evs G (calls G n).1 (calls G n).2 body ⟨ρ, cp⟩) (st ++ cs) (Ended (fun d s => Q d (killC s st.length cs.length)) fun x s => E x (killC s st.length cs.length))) : Run ((calls G (n + 1)).1 f as) st Q E := by
  refine (run_defC hf).mpr ⟨hl, ?_⟩
  have e : cs.length = c.caps.length := by rw [← hcs, List.length_map]
  rw [hcs, hρ, hb, hcp, ← e]
  exact h
section
variable {st : Store} {E : Ex → Store → Prop} {Q : Fr → Store → Prop} {i : Nat} {d : D} {ρ : List (Option D)}
theorem b_nm0 (h : Q ⟨ρ.set i (some d), []⟩ st) : Run (bindT (.nm i) d ⟨ρ, []⟩) st Q E := h
theorem b_nm {cp : List (Nat × Nat)} (hc : cp.lookup i = none) (h : Q ⟨ρ.set i (some d), cp⟩ st) : Run (bindT (.nm i) d ⟨ρ, cp⟩) st Q E := by
  have e : bindT (.nm i) d ⟨ρ, cp⟩ st = .ok ⟨ρ.set i (some d), cp⟩ st := by
    show Fr.set _ _ _ _ = _
    unfold Fr.set
    simp only [hc]
  exact (run_eq e).mpr h
theorem b_nmC {cp : List (Nat × Nat)} {l : Nat} (hc : cp.lookup i = some l) (h : Q ⟨ρ.set i (some d), cp⟩ (st.set l (.cell (some d)))) : Run (bindT (.nm i) d ⟨ρ, cp⟩) st Q E := by
  have e : bindT (.nm i) d ⟨ρ, cp⟩ st = .ok ⟨ρ.set i (some d), cp⟩ (st.set l (.cell (some d))) := by
    show Fr.set _ _ _ _ = _
    unfold Fr.set
    simp only [hc]
  exact (run_eq e).mpr h
end
end MI.P

set_option Elab.async false
set_option linter.all false
set_option maxRecDepth 100000
set_option maxHeartbeats 4000000
/-! PLAIN, part 3: loops, comprehensions, lists compared, texts. -/
namespace MI.P
open PySem
theorem run_to {α : Type} {m : M α} {v : α} {st st' : Store} (h : Run m st (fun a s => a = v ∧ s = st') fun _ _ => False) : m st = .ok v st' := by
  obtain ⟨a, s, e, rfl, rfl⟩ := h.get
  exact e
theorem Run.to {α : Type} {m : M α} {st : Store} {Q Q' : α → Store → Prop} {E : Ex → Store → Prop} (h : Run m st Q' fun _ _ => False) (k : ∀ a s, Q' a s → Q a s) : Run m st Q E := h.imp k fun _ _ z => z.elim
/-! ### loops -/
theorem for_run {ck : M Unit} {turn : D → Fr → S} {R : Out → Store → Prop} (P : List D → Fr → Store → Prop) (hck : ∀ r fr s, P r fr s → ck s = .ok () s)
    (step : ∀ d r fr s, P (d :: r) fr s → RunS (turn d fr) s (fun o s' => match o with
      | .nx fr' => P r fr' s'
      | .ct fr' => P r fr' s'
      | .bk fr' => R (.nx fr') s'
      | o => R o s')) (fin : ∀ fr s, P [] fr s → R (.nx fr) s) : ∀ (ds : List D) (fr : Fr) (st : Store), P ds fr st → RunS (forGo ck turn ds fr) st R
  | [], fr, st, h => by
    unfold forGo
    rw [runS_ex, run_eq (hck _ _ _ h)]
    exact fin fr st h
  | d :: r, fr, st, h => by
    unfold forGo
    rw [runS_ex, run_eq (hck _ _ _ h)]
    have k := step d r fr st h
    unfold RunS at k ⊢
    cases e : turn d fr st with
    | none => rw [e] at k; exact k.elim
    | some p =>
      obtain ⟨o, s⟩ := p
      rw [e] at k
      simp only [e]
      cases o with
      | nx fr' =>
        have z := for_run P hck step fin r fr' s k
        unfold RunS at z
        exact z
      | ct fr' =>
        have z := for_run P hck step fin r fr' s k
        unfold RunS at z
        exact z
      | bk fr' => exact k
      | rt d => exact k
      | xx x f => exact k
theorem lc_run {f : D → M (Option D)} {ck : M Unit} {E : Ex → Store → Prop} (P : List D → List D → Store → Prop) (hck : ∀ r a s, P r a s → ck s = .ok () s)
    (step : ∀ d r a s, P (d :: r) a s → Run (f d) s (fun o s' => P r (a ++ o.toList) s') E) : ∀ (ds a : List D) (st : Store), P ds a st → Run (lcGo f ck ds) st (fun res s => P [] (a ++ res) s) E
  | [], a, st, h => by
    unfold lcGo
    rw [run_bnd, run_eq (hck _ _ _ h), run_ret, List.append_nil]
    exact h
  | d :: r, a, st, h => by
    unfold lcGo
    rw [run_bnd, run_eq (hck _ _ _ h), run_bnd]
    refine (step d r a st h).imp (fun o s k => ?_) fun _ _ z => z
    rw [run_bnd]
    refine (lc_run P hck step r _ s k).imp (fun res s2 k2 => ?_) fun _ _ z => z
    rw [run_ret]
    cases o with
    | none => simpa using k2
    | some x => simpa using k2
/-- a comprehension whose turns leave the store -/
theorem lc_pure {f : D → M (Option D)} {ck : M Unit} {g : D → Option D} {st : Store} (hck : ck st = .ok () st) : ∀ {ds : List D}, (∀ d ∈ ds, f d st = .ok (g d) st) → lcGo f ck ds st = .ok (ds.filterMap g) st
  | [], _ => by
    unfold lcGo bnd
    rw [hck]
    rfl
  | d :: r, h => by
    have ih := lc_pure (g := g) hck (ds := r) fun d hd => h d (List.mem_cons_of_mem _ hd)
    unfold lcGo bnd
    rw [hck]
    simp only [h d List.mem_cons_self, ih]
    cases e : g d <;> simp [ret, List.filterMap_cons, e]
theorem chk_nil {st : Store} : chk [] st = .ok () st := rfl
theorem chk_at {l : Nat} {ds : List D} {st : Store} (h : st[l]? = some (.lst ds) ∨ st[l]? = some (.fro ds)) : chk [(l, ds)] st = .ok () st := by
  unfold chk
  rw [if_pos h]
  rfl
/-! ### lists compared with the empty one -/
def cOk (s : Str) : Prop := ∀ c ∈ s.cps.toList, c < 0x110000
def FlatD : D → Prop
  | .non => True
  | .bl _ => True
  | .int _ => True
  | .str s => cOk s
  | .tup ds => ∀ d ∈ ds, ∃ i, d = .int i
  | _ => False
theorem cOk_str {s : Str} (h : cOk s) : PyData.strOk s = true := by
  unfold PyData.strOk
  rw [← Array.all_toList, List.all_eq_true]
  exact fun c hc => decide_eq_true (h c hc)
theorem ints_data {st : Store} {n : Nat} : ∀ {ds : List D}, (∀ d ∈ ds, ∃ i, d = .int i) → ∃ ps, allO (dataOf st (n + 1)) ds = some ps ∧ PyData.canLayAll0 ps = true ∧ PyData.depthAll ps = 0
  | [], _ => ⟨[], rfl, rfl, rfl⟩
  | d :: r, h => by
    obtain ⟨i, rfl⟩ := h d List.mem_cons_self
    obtain ⟨ps, e, c, k⟩ := ints_data (st := st) (n := n) (ds := r) fun d hd => h d (List.mem_cons_of_mem _ hd)
    exact ⟨.int i :: ps, by unfold allO; rw [e]; rfl, by unfold PyData.canLayAll0; rw [c]; rfl, by unfold PyData.depthAll; rw [k]; rfl⟩
theorem flat_data {st : Store} {n : Nat} {d : D} (h : FlatD d) : ∃ p, dataOf st (n + 2) d = some p ∧ p.canLay0 = true ∧ p.depth ≤ 1 := by
  cases d with
  | non => exact ⟨.none, rfl, rfl, Nat.zero_le _⟩
  | bl b => exact ⟨.bool b, rfl, rfl, Nat.zero_le _⟩
  | int i => exact ⟨.int i, rfl, rfl, Nat.zero_le _⟩
  | str s => exact ⟨.str s, rfl, cOk_str h, Nat.zero_le _⟩
  | tup ds =>
    obtain ⟨ps, e, c, k⟩ := ints_data (st := st) (n := n) h
    refine ⟨.tuple ps, ?_, by unfold PyData.canLay0; exact c, by unfold PyData.depth; omega⟩
    show (allO (dataOf st (n + 1)) ds).map PyData.tuple = _
    rw [e]
    rfl
  | _ => exact h.elim
theorem flats_data {st : Store} {n : Nat} : ∀ {ds : List D}, (∀ d ∈ ds, FlatD d) → ∃ ps, allO (dataOf st (n + 2)) ds = some ps ∧ PyData.canLayAll0 ps = true ∧ PyData.depthAll ps ≤ 1 ∧ ps.length = ds.length
  | [], _ => ⟨[], rfl, rfl, Nat.zero_le _, rfl⟩
  | d :: r, h => by
    obtain ⟨p, e1, c1, k1⟩ := flat_data (st := st) (n := n) (h d List.mem_cons_self)
    obtain ⟨ps, e, c, k, l⟩ := flats_data (st := st) (n := n) (ds := r) fun d hd => h d (List.mem_cons_of_mem _ hd)
    exact ⟨p :: ps, by unfold allO; rw [e, e1], by unfold PyData.canLayAll0; rw [c, c1]; rfl, by unfold PyData.depthAll; omega, by simp [l]⟩
theorem eq_nil {st : Store} {l k : Nat} {ds : List D} (h1 : st[l]? = some (.lst ds) ∨ st[l]? = some (.fro ds)) (h2 : st[k]? = some (.lst [])) (hf : ∀ d ∈ ds, FlatD d) : eqD (.loc l) (.loc k) st = .ok ds.isEmpty st := by
  obtain ⟨ps, e, c, dd, hl⟩ := flats_data (st := st) (n := 6) hf
  have e1 : dataOf st 9 (.loc l) = some (.list ps) := by
    unfold dataOf
    rcases h1 with h1 | h1 <;> simp [h1, e]
  have e2 : dataOf st 9 (.loc k) = some (.list []) := by
    unfold dataOf
    simp [h2, allO]
  have s1 : SeqAt.shaped (.list ps) = true := by
    unfold SeqAt.shaped PyData.canLay0 PyData.depth
    rw [c]
    simp
    omega
  have s2 : SeqAt.shaped (.list []) = true := by decide
  show (match eqScal (.loc l) (.loc k) with
    | some r => ret r
    | none => fun st => match dataOf st 9 (.loc l), dataOf st 9 (.loc k) with
      | some p, some q => if (SeqAt.shaped p && SeqAt.shaped q) = true then .ok (PyData.eqv p q) st else .no
      | _, _ => .no) st = _
  simp only [eqScal, e1, e2, s1, s2]
  cases ds with
  | nil =>
    obtain rfl : ps = [] := List.length_eq_zero_iff.mp hl
    rfl
  | cons d r =>
    cases ps with
    | nil => cases hl
    | cons p ps => rfl
theorem r_eqn {st : Store} {l k : Nat} {ds : List D} (h1 : st[l]? = some (.lst ds) ∨ st[l]? = some (.fro ds)) (h2 : st[k]? = some (.lst [])) (hf : ∀ d ∈ ds, FlatD d) : cmpop .eq (.loc l) (.loc k) st = .ok (.bl ds.isEmpty) st := by
  show bnd (eqD (.loc l) (.loc k)) (fun r => ret (D.bl r)) st = _
  unfold bnd
  rw [eq_nil h1 h2 hf]
  rfl
theorem r_nen {st : Store} {l k : Nat} {ds : List D} (h1 : st[l]? = some (.lst ds) ∨ st[l]? = some (.fro ds)) (h2 : st[k]? = some (.lst [])) (hf : ∀ d ∈ ds, FlatD d) : cmpop .ne (.loc l) (.loc k) st = .ok (.bl !ds.isEmpty) st := by
  show bnd (eqD (.loc l) (.loc k)) (fun r => ret (D.bl (!r))) st = _
  unfold bnd
  rw [eq_nil h1 h2 hf]
  rfl
/-! ### cells -/
theorem Fx.kill {S : List Nat} {st s : Store} (h : Fx S st s) {n k : Nat} (hn : st.length ≤ n) : Fx S st (killC s n k) := ⟨by rw [killC_len]; exact h.1, fun l hl hs => by rw [killC_out (by omega)]; exact h.2 l hl hs⟩
/-! ### texts -/
open TL (tl)
theorem slen (s : Str) : s.length = (tl s).length := by simp [Str.length]
theorem join_mem {y : Str} : ∀ {ps : List Str} {p : Str}, p ∈ ps → (∀ c ∈ tl p, c ∈ tl (Str.join y ps)) ∧ p.length ≤ (Str.join y ps).length
  | [x], p, h => by
    rw [List.mem_singleton.mp h]
    exact ⟨fun c hc => hc, Nat.le_refl _⟩
  | x :: z :: r, p, h => by
    have e : tl (Str.join y (x :: z :: r)) = tl x ++ (tl y ++ tl (Str.join y (z :: r))) := by
      show tl (x ++ y ++ Str.join y (z :: r)) = _
      rw [TL.tl_append, TL.tl_append, List.append_assoc]
    rw [slen p, slen (Str.join y (x :: z :: r)), e]
    rcases List.mem_cons.mp h with rfl | h
    · exact ⟨fun c hc => List.mem_append_left _ hc, by simp only [List.length_append]; omega⟩
    · obtain ⟨h1, h2⟩ := join_mem (y := y) h
      rw [slen, slen] at h2
      exact ⟨fun c hc => List.mem_append_right _ (List.mem_append_right _ (h1 c hc)), by simp only [List.length_append]; omega⟩
theorem split_mem {x y p : Str} (h : p ∈ Txt.split x y) : (∀ c ∈ tl p, c ∈ tl x) ∧ p.length ≤ x.length := by
  have e := StrLaws.join_split x y
  have := join_mem (y := y) h
  rw [e] at this
  exact this
theorem split_ne (x y : Str) (hx : x.length ≠ 0 ∨ y.length ≠ 0) : Txt.split x y ≠ [] := by
  intro e
  have k := StrLaws.join_split x y
  rw [e] at k
  have k : Str.empty = x := k
  unfold Txt.split at e
  split at e
  · cases e
  · rename_i c
    rw [← k] at c hx e
    rcases hx with z | z
    · exact z rfl
    · have : (Str.empty : Str).length < y.length := Nat.pos_of_ne_zero z
      simp [this] at c
end MI.P

set_option Elab.async false
set_option linter.all false
set_option maxRecDepth 100000
set_option maxHeartbeats 4000000
/-! PLAIN, part 4: numbers and words. -/
namespace MI.P
open PySem K82
local macro_rules | `(tactic| fail) => `(tactic| first
  | ((with_reducible refine e_var.mpr ?_); refine ⟨_, rfl, ?_⟩)
  | with_reducible refine e_c.mpr ?_
  | with_reducible refine e_gv.mpr ?_
  | with_reducible refine e_bin.mpr ?_
  | with_reducible refine e_cmp.mpr ?_
  | with_reducible refine e_chain.mpr ?_
  | with_reducible refine e_neg.mpr ?_
  | with_reducible refine e_not.mpr ?_
  | with_reducible refine e_and.mpr ?_
  | with_reducible refine e_or.mpr ?_
  | with_reducible refine e_ife.mpr ?_
  | with_reducible refine e_nil.mpr ?_
  | with_reducible refine e_cons.mpr ?_
  | with_reducible refine e_consT.mpr ?_
  | with_reducible refine e_consU.mpr ?_
  | with_reducible refine e_rep.mpr ?_
  | with_reducible refine e_tup.mpr ?_
  | with_reducible refine e_lst.mpr ?_
  | with_reducible refine e_idx.mpr ?_
  | with_reducible refine e_part.mpr ?_
  | with_reducible refine e_sl.mpr ?_
  | with_reducible refine e_attr.mpr ?_
  | with_reducible refine e_call.mpr ?_
  | with_reducible refine e_make.mpr ?_
  | with_reducible refine e_meth.mpr ?_
  | with_reducible refine e_bi.mpr ?_
  | with_reducible refine e_isi.mpr ?_
  | with_reducible refine e_yes.mpr ?_
  | with_reducible refine e_lc.mpr ?_
  | with_reducible refine runS_seq.mpr ?_
  | with_reducible refine t_skip.mpr ?_
  | with_reducible refine t_asg.mpr ?_
  | with_reducible refine t_setf.mpr ?_
  | with_reducible refine t_augf.mpr ?_
  | with_reducible refine t_seti.mpr ?_
  | with_reducible refine t_exp.mpr ?_
  | with_reducible refine t_ite.mpr ?_
  | with_reducible refine t_ret.mpr ?_
  | with_reducible refine t_retn.mpr ?_
  | with_reducible refine t_raise.mpr ?_
  | with_reducible refine t_for.mpr ?_
  | with_reducible refine k_nx ?_
  | with_reducible refine k_rt ?_
  | with_reducible refine k_xx ?_
  | with_reducible refine q_nx ?_
  | with_reducible refine q_rt ?_
  | with_reducible refine q_xx ?_
  | ((with_reducible refine g_isiD ?_); refine p_isiD rfl ?_)
  | ((with_reducible refine g_cmpop ?_); refine p_cmpop rfl ?_)
  | ((with_reducible refine g_binop ?_); refine p_binop rfl ?_)
  | ((with_reducible refine g_consD ?_); refine p_consD rfl ?_)
  | ((with_reducible refine g_biop ?_); refine p_biop rfl ?_)
  | ((with_reducible refine g_idxD ?_); refine p_idxD rfl ?_)
  | ((with_reducible refine g_sliD ?_); refine p_sliD rfl ?_)
  | ((with_reducible refine g_augop ?_); refine p_augop rfl ?_)
  | ((with_reducible refine g_setiD ?_); refine p_setiD rfl ?_)
  | ((with_reducible refine g_srcOf ?_); refine p_srcOf rfl ?_)
  | ((with_reducible refine g_repD ?_); refine p_repD rfl ?_)
  | with_reducible refine b_nm0 ?_
  | ((with_reducible refine b_nm ?h0 ?_); (case h0 => rfl))
  | ((with_reducible refine g_bindT ?_); refine p_bindT rfl ?_)
  | ((with_reducible refine g_itOf ?_); refine p_itOf rfl ?_)
  | ((with_reducible refine e_lam.mpr ?_); refine ⟨_, rfl, ?_⟩)
  | ((with_reducible refine t_aug.mpr ?_); refine ⟨_, rfl, ?_⟩)
  | ((with_reducible refine ex_tup ?h0 ?_); (case h0 => exact Nat.le_of_ble_eq_true rfl))
  | with_reducible refine br_t ?_
  | with_reducible refine br_f ?_
  | with_reducible refine br_nd (fun h => ?_) (fun h => ?_)
  | with_reducible refine br_d (fun h => ?_) (fun h => ?_)
  | ((with_reducible refine br_g ?_); refine br_t ?_)
  | ((with_reducible refine br_g ?_); refine br_f ?_)
  | with_reducible refine br_n (fun h => ?_) (fun h => ?_)
  | with_reducible refine br_b (fun h => ?_) (fun h => ?_)
  | with_reducible refine ⟨_, rfl, ?_⟩)
def isNum (d : D) (lo hi : Int) : Bool := match d with
  | .int i => decide (lo ≤ i) && decide (i ≤ hi)
  | _ => false
/-- a value that may be asked for its sort -/
def Vld (st : Store) : D → Prop
  | .fn _ => False
  | .clo _ _ => False
  | .loc l => ∃ ds, st[l]? = some (.lst ds) ∨ st[l]? = some (.fro ds)
  | _ => True
theorem Vld.fx {st st' : Store} (h : Fx [] st st') {d : D} (v : Vld st d) : Vld st' d := by
  cases d <;> first | exact v | skip
  obtain ⟨ds, v⟩ := v
  exact ⟨ds, v.imp (fun z => h.get z (by simp)) fun z => h.get z (by simp)⟩
theorem isi_loc {st : Store} {l : Nat} {ds : List D} (h : st[l]? = some (.lst ds) ∨ st[l]? = some (.fro ds)) (T : Ty) (hT : ∀ c, T ≠ .own c) : isiD (.loc l) T st = .ok (.bl (match T with | .list => true | _ => false)) st := by
  unfold isiD typOf
  rcases h with h | h <;> (simp only [h]; cases T <;> first | rfl | exact absurd rfl (hT _))
theorem s_whole (n : Nat) {d : D} {lo hi : Int} {st : Store} (hd : Vld st d) : (calls G (n + 1)).1 0 [d, .int lo, .int hi] st = .ok (.bl (isNum d lo hi)) st := by
  refine run_to ((run_def (c := c0) rfl rfl).mpr ⟨rfl, ?_⟩)
  unfold c0 startF
  cases d with
  | int i =>
    repeat fail
    all_goals (refine ⟨?_, rfl⟩; simp_all [isNum]; try omega)
  | fn f => exact hd.elim
  | clo k l => exact hd.elim
  | loc l =>
    obtain ⟨ds, h⟩ := hd
    repeat fail
    refine (run_eq (isi_loc h .int fun c z => by cases z)).mpr ?_
    repeat fail
    all_goals exact ⟨rfl, rfl⟩
  | _ =>
    repeat fail
    all_goals exact ⟨rfl, rfl⟩
def isInt : D → Bool
  | .int _ => true
  | _ => false
theorem s_iswhole (n : Nat) {d : D} {st : Store} (hd : Vld st d) : (calls G (n + 1)).1 8 [d] st = .ok (.bl (isInt d)) st := by
  refine run_to ((run_def (c := c8) rfl rfl).mpr ⟨rfl, ?_⟩)
  unfold c8 startF
  cases d with
  | fn f => exact hd.elim
  | clo k l => exact hd.elim
  | loc l =>
    obtain ⟨ds, h⟩ := hd
    repeat fail
    refine (run_eq (isi_loc h .int fun c z => by cases z)).mpr ?_
    repeat fail
    all_goals exact ⟨rfl, rfl⟩
  | _ =>
    repeat fail
    all_goals exact ⟨rfl, rfl⟩
theorem s_isnum (n : Nat) {d : D} {lo hi : Int} {st : Store} (hd : Vld st d) : (calls G (n + 2)).1 17 [d, .int lo, .int hi] st = .ok (.bl (isNum d lo hi)) st := by
  refine run_to ((run_def (c := c17) rfl rfl).mpr ⟨rfl, ?_⟩)
  unfold c17 startF
  repeat fail
  refine (run_eq (s_iswhole n hd)).mpr ?_
  cases d with
  | int i =>
    repeat fail
    all_goals (refine ⟨?_, rfl⟩; simp_all [isNum, isInt]; try omega)
  | _ =>
    repeat fail
    all_goals exact ⟨rfl, rfl⟩
theorem s_asked (n : Nat) {d : D} {st : Store} {Q : D → Store → Prop} {E : Ex → Store → Prop} (hd : Vld st d) (h1 : isNum d 0 40 = true → Q .non st) (h2 : isNum d 0 40 = false → E ⟨2, d⟩ st) : Run ((calls G (n + 2)).1 5 [d]) st Q E := by
  refine (run_def (c := c5) rfl rfl).mpr ⟨rfl, ?_⟩
  unfold c5 startF
  repeat fail
  refine (run_eq (s_whole n hd)).mpr ?_
  cases e : isNum d 0 40 with
  | true =>
    repeat fail
    exact h1 e
  | false =>
    repeat fail
    exact h2 e
end MI.P

set_option Elab.async false
set_option linter.all false
set_option maxRecDepth 100000
set_option maxHeartbeats 4000000
/-! PLAIN, part 5: words as numbers. -/
namespace MI.P
open PySem K82
open TL (tl)
local macro_rules | `(tactic| fail) => `(tactic| first
  | ((with_reducible refine e_var.mpr ?_); refine ⟨_, rfl, ?_⟩)
  | with_reducible refine e_c.mpr ?_
  | with_reducible refine e_gv.mpr ?_
  | with_reducible refine e_bin.mpr ?_
  | with_reducible refine e_cmp.mpr ?_
  | with_reducible refine e_chain.mpr ?_
  | with_reducible refine e_neg.mpr ?_
  | with_reducible refine e_not.mpr ?_
  | with_reducible refine e_and.mpr ?_
  | with_reducible refine e_or.mpr ?_
  | with_reducible refine e_ife.mpr ?_
  | with_reducible refine e_nil.mpr ?_
  | with_reducible refine e_cons.mpr ?_
  | with_reducible refine e_consT.mpr ?_
  | with_reducible refine e_consU.mpr ?_
  | with_reducible refine e_rep.mpr ?_
  | with_reducible refine e_tup.mpr ?_
  | with_reducible refine e_lst.mpr ?_
  | with_reducible refine e_idx.mpr ?_
  | with_reducible refine e_part.mpr ?_
  | with_reducible refine e_sl.mpr ?_
  | with_reducible refine e_attr.mpr ?_
  | with_reducible refine e_call.mpr ?_
  | with_reducible refine e_make.mpr ?_
  | with_reducible refine e_meth.mpr ?_
  | with_reducible refine e_bi.mpr ?_
  | with_reducible refine e_isi.mpr ?_
  | with_reducible refine e_yes.mpr ?_
  | with_reducible refine e_lc.mpr ?_
  | with_reducible refine runS_seq.mpr ?_
  | with_reducible refine t_skip.mpr ?_
  | with_reducible refine t_asg.mpr ?_
  | with_reducible refine t_setf.mpr ?_
  | with_reducible refine t_augf.mpr ?_
  | with_reducible refine t_seti.mpr ?_
  | with_reducible refine t_exp.mpr ?_
  | with_reducible refine t_ite.mpr ?_
  | with_reducible refine t_ret.mpr ?_
  | with_reducible refine t_retn.mpr ?_
  | with_reducible refine t_raise.mpr ?_
  | with_reducible refine t_for.mpr ?_
  | with_reducible refine k_nx ?_
  | with_reducible refine k_rt ?_
  | with_reducible refine k_xx ?_
  | with_reducible refine q_nx ?_
  | with_reducible refine q_rt ?_
  | with_reducible refine q_xx ?_
  | ((with_reducible refine g_isiD ?_); refine p_isiD rfl ?_)
  | ((with_reducible refine g_cmpop ?_); refine p_cmpop rfl ?_)
  | ((with_reducible refine g_binop ?_); refine p_binop rfl ?_)
  | ((with_reducible refine g_consD ?_); refine p_consD rfl ?_)
  | ((with_reducible refine g_biop ?_); refine p_biop rfl ?_)
  | ((with_reducible refine g_idxD ?_); refine p_idxD rfl ?_)
  | ((with_reducible refine g_sliD ?_); refine p_sliD rfl ?_)
  | ((with_reducible refine g_augop ?_); refine p_augop rfl ?_)
  | ((with_reducible refine g_setiD ?_); refine p_setiD rfl ?_)
  | ((with_reducible refine g_srcOf ?_); refine p_srcOf rfl ?_)
  | ((with_reducible refine g_repD ?_); refine p_repD rfl ?_)
  | with_reducible refine b_nm0 ?_
  | ((with_reducible refine b_nm ?h0 ?_); (case h0 => rfl))
  | ((with_reducible refine g_bindT ?_); refine p_bindT rfl ?_)
  | ((with_reducible refine g_itOf ?_); refine p_itOf rfl ?_)
  | ((with_reducible refine e_lam.mpr ?_); refine ⟨_, rfl, ?_⟩)
  | ((with_reducible refine t_aug.mpr ?_); refine ⟨_, rfl, ?_⟩)
  | ((with_reducible refine ex_tup ?h0 ?_); (case h0 => exact Nat.le_of_ble_eq_true rfl))
  | with_reducible refine br_t ?_
  | with_reducible refine br_f ?_
  | with_reducible refine br_nd (fun h => ?_) (fun h => ?_)
  | with_reducible refine br_d (fun h => ?_) (fun h => ?_)
  | ((with_reducible refine br_g ?_); refine br_t ?_)
  | ((with_reducible refine br_g ?_); refine br_f ?_)
  | with_reducible refine br_n (fun h => ?_) (fun h => ?_)
  | with_reducible refine br_b (fun h => ?_) (fun h => ?_)
  | with_reducible refine ⟨_, rfl, ?_⟩)
theorem lcT_run {G : GP} {cf : Nat → List D → M D} {cc : Nat → List Nat → List D → M D} {tg : Tg} {cond elt : CE} {ρ : List (Option D)} {d : D} {st : Store} {Q : Option D → Store → Prop} {E : Ex → Store → Prop} : Run (lcT G cf cc tg cond elt ρ d) st Q E ↔ Run (bindT tg d { ρ := wipeL ρ tg.slots, cp := [] }) st (fun fr' s => Run (ev G cf cc cond fr') s (fun z s => ∃ t, z = .bl t ∧ (t = true → Run (ev G cf cc elt fr') s (fun w s => Q (some w) s) E) ∧ (t = false → Q none s)) E) E := by
  unfold lcT
  rw [run_bnd]
  refine iff_of_eq (congrArg (fun k => Run _ st k E) (funext fun fr' => funext fun s => propext ?_))
  rw [run_bnd]
  refine iff_of_eq (congrArg (fun k => Run _ s k E) (funext fun z => funext fun s => propext ?_))
  rw [run_bnd, run_tst]
  constructor
  · rintro ⟨t, rfl, h⟩
    cases t <;> simp_all [run_bnd, run_ret]
  · rintro ⟨t, rfl, h1, h2⟩
    cases t <;> simp_all [run_bnd, run_ret]
theorem len_str {s : Str} {st : Store} (h : s.length ≤ sizeLine) : biop .len [.str s] st = .ok (.int s.length) st := by
  show bnd (guard (decide (s.length ≤ sizeLine))) _ st = _
  rw [decide_eq_true h]
  rfl
theorem len_loc {l : Nat} {ds : List D} {st : Store} (h : st[l]? = some (.lst ds) ∨ st[l]? = some (.fro ds)) : biop .len [.loc l] st = .ok (.int ds.length) st := by
  show bnd (seqOf (.loc l)) _ st = _
  unfold bnd seqOf
  rcases h with h | h <;> (simp only [h]; rfl)
theorem idx_str {s : Str} {i : Int} {c : Nat} {st : Store} (h : s.length ≤ sizeLine) (e : L2.atI (tl s) i = some c) : idxD (.str s) (.int i) st = .ok (.str ⟨#[c]⟩) st := by
  show bnd (guard (decide (s.length ≤ sizeLine))) (fun _ => match L2.atI s.cps.toList i with
      | some c => ret (D.str ⟨#[c]⟩)
      | none => no) st = _
  rw [decide_eq_true h, show L2.atI s.cps.toList i = some c from e]
  rfl
theorem idx_loc {l : Nat} {ds : List D} {i : Int} {d : D} {st : Store} (h : st[l]? = some (.lst ds) ∨ st[l]? = some (.fro ds)) (e : L2.atI ds i = some d) : idxD (.loc l) (.int i) st = .ok d st := by
  show bnd (seqOf (.loc l)) (fun ds => ofO (L2.atI ds i)) st = _
  unfold bnd seqOf
  rcases h with h | h <;> (simp only [h, e]; rfl)
theorem at0 {α : Type} {x : α} {r : List α} : L2.atI (x :: r) 0 = some x := by
  unfold L2.atI L2.ixN
  simp
theorem atN {α : Type} {xs : List α} {i : Nat} {x : α} (h : xs[i]? = some x) : L2.atI xs (i : Int) = some x := by
  have hl := (List.getElem?_eq_some_iff.mp h).1
  unfold L2.atI L2.ixN
  rw [if_pos (by omega), if_pos (by omega)]
  simpa using h
theorem sz : (1000000 : Nat) ≤ sizeLine := by decide
def digB (c : Nat) : Bool := decide (c ∈ (Str.ofString "0123456789").cps.toList)
theorem digB_iff {c : Nat} : digB c = true ↔ 48 ≤ c ∧ c ≤ 57 := by
  have e : (Str.ofString "0123456789").cps.toList = [48, 49, 50, 51, 52, 53, 54, 55, 56, 57] := by decide +kernel
  unfold digB
  rw [decide_eq_true_eq, e]
  simp only [List.mem_cons, List.not_mem_nil, or_false]
  omega
/-- the number that a word tells -/
def numO (w : Str) : Option Int := if (1 ≤ w.length ∧ w.length ≤ 20) ∧ (w = "0" ∨ (tl w).head? ≠ some 48) ∧ (tl w).all digB = true then some ((NumText.digitsVal (tl w) : Nat) : Int) else none
def optD : Option Int → D
  | some i => .int i
  | none => .non
abbrev chD (s : Str) : List D := (tl s).map fun c => .str ⟨#[c]⟩
theorem int_word {w : Str} {st : Store} (h1 : w.length ≠ 0) (h2 : w.length ≤ 20) (h3 : (tl w).all digB = true) : biop .int [.str w] st = .ok (.int (NumText.digitsVal (tl w) : Nat)) st := by
  have e := intText_digits (x := w) (fun c hc => digB_iff.mp (List.all_eq_true.mp h3 c hc)) (fun z => h1 (by rw [slen]; show w.cps.toList.length = 0; rw [z]; rfl)) (by omega)
  show (match intText? w with
    | some n => bnd (guard (decide (w.length ≤ 640))) fun _ => ret (D.int n)
    | none => no) st = _
  rw [e]
  show bnd (guard (decide (w.length ≤ 640))) _ st = _
  rw [decide_eq_true (by omega)]
  rfl
theorem bools_of {st : Store} : ∀ {bs : List Bool}, boolsOf (bs.map .bl) = some bs
  | [] => rfl
  | b :: r => by
    show (boolsOf (r.map .bl)).map (b :: ·) = _
    rw [bools_of (st := st)]
    rfl
theorem any_loc {l : Nat} {bs : List Bool} {st : Store} (h : st[l]? = some (.lst (bs.map .bl))) : biop .any [.loc l] st = .ok (.bl (bs.any id)) st := by
  show bnd (seqOf (.loc l)) (fun ds => bnd (ofO (boolsOf ds)) fun bs => ret (D.bl (bs.any id))) st = _
  unfold bnd seqOf
  simp only [h, bools_of (st := st)]
  rfl
theorem all_loc {l : Nat} {bs : List Bool} {st : Store} (h : st[l]? = some (.lst (bs.map .bl))) : biop .all [.loc l] st = .ok (.bl (bs.all id)) st := by
  show bnd (seqOf (.loc l)) (fun ds => bnd (ofO (boolsOf ds)) fun bs => ret (D.bl (bs.all id))) st = _
  unfold bnd seqOf
  simp only [h, bools_of (st := st)]
  rfl
theorem app_at {st : Store} {o : Ob} : (st ++ [o])[st.length]? = some o := by simp
theorem fm_some {α β : Type} (f : α → β) (l : List α) : l.filterMap (fun x => some (f x)) = l.map f := by
  induction l with
  | nil => rfl
  | cons a r ih => simp [List.filterMap_cons, ih]
theorem str_eq {a b : Str} : a = b ↔ tl a = tl b := ⟨fun h => by rw [h], fun h => TL.ext_tl h⟩
theorem s_number (n : Nat) {w : Str} {st : Store} {E : Ex → Store → Prop} (hw : w.length ≤ sizeLine) : Run ((calls G (n + 1)).1 4 [.str w]) st (fun d s => d = optD (numO w) ∧ Fx [] st s) E := by
  refine (run_def (c := c4) rfl rfl).mpr ⟨rfl, ?_⟩
  unfold c4 startF
  repeat fail
  refine p_biop (len_str hw) ?_
  have dead : ¬ ((1 ≤ w.length ∧ w.length ≤ 20) ∧ (w = "0" ∨ (tl w).head? ≠ some 48) ∧ (tl w).all digB = true) → numO w = none := fun h => by
    unfold numO
    rw [if_neg h]
  have rest : ((1 ≤ w.length ∧ w.length ≤ 20) ∧ (w = "0" ∨ (tl w).head? ≠ some 48)) → RunS (evs G (calls G n).1 (calls G n).2 ((CS.ite (CE.bi Bi.any ((CE.lc Ik.seq (CE.var 0) CE.yes (Tg.nm 1) CE.yes (CE.cmp Cop.notin (CE.var 1) (CE.gv "FIGURES" (D.str "0123456789")))).cons CE.nil)) ((CS.ret (CE.c D.non)).seq CS.skip) CS.skip).seq ((CS.ret (CE.bi Bi.int ((CE.var 0).cons CE.nil))).seq CS.skip)) ⟨[some (.str w), none], []⟩) st (Ended (fun d s => d = optD (numO w) ∧ Fx [] st s) E) := fun hh => by
    repeat fail
    refine ⟨by show ((tl w).map _).length ≤ _; rw [List.length_map, ← slen]; exact hw, ?_⟩
    refine (run_eq (lc_pure (g := fun d => match d with | .str z => some (.bl (!digB (z.cps.getD 0 0))) | _ => none) chk_nil fun d hd => ?_)).mpr ?_
    · obtain ⟨c, _, rfl⟩ := List.mem_map.mp hd
      refine run_to (lcT_run.mpr ?_)
      repeat fail
      all_goals exact ⟨rfl, rfl⟩
    have e : List.filterMap (fun d => match d with | .str z => some (D.bl (!digB (z.cps.getD 0 0))) | _ => none) (chD w) = ((tl w).map fun c => !digB c).map .bl := by
      unfold chD
      rw [List.filterMap_map, List.map_map, ← fm_some]
      rfl
    rw [show List.filterMap (fun d => match d with | .str z => some (D.bl (!digB (z.cps.getD 0 0))) | _ => none) (List.map (fun c => D.str ⟨#[c]⟩) w.cps.toList, ([] : List (Nat × List D))).1 = _ from e]
    repeat fail
    refine p_biop (any_loc app_at) ?_
    cases hb : (tl w).all digB with
    | true =>
      have e2 : (((tl w).map fun c => !digB c).any id) = false := by
        rw [List.any_map, List.any_eq_false]
        intro c hc
        simp [List.all_eq_true.mp hb c hc]
      rw [e2]
      repeat fail
      refine p_biop (int_word (by omega) hh.1.2 hb) ?_
      repeat fail
      have e3 : numO w = some ((NumText.digitsVal (tl w) : Nat) : Int) := by
        unfold numO
        rw [if_pos ⟨hh.1, hh.2, hb⟩]
      rw [e3]
      exact ⟨rfl, Fx.app _ _⟩
    | false =>
      have e2 : (((tl w).map fun c => !digB c).any id) = true := by
        obtain ⟨c, hc, h⟩ := List.all_eq_false.mp hb
        rw [List.any_map, List.any_eq_true]
        exact ⟨c, hc, by simpa using h⟩
      rw [e2]
      repeat fail
      rw [dead fun z => by rw [hb] at z; exact Bool.noConfusion z.2.2]
      exact ⟨rfl, Fx.app _ _⟩
  have z0 : ∀ c : Nat, ((⟨#[c]⟩ : Str) = "0") ↔ c = 48 := fun c => by
    rw [str_eq]
    have : tl "0" = [48] := by decide +kernel
    rw [this]
    simp [tl]
  repeat fail
  · rename_i h1 h2
    rw [dead fun z => by have := z.1.2; omega]
    exact ⟨rfl, Fx.refl _⟩
  · rename_i h1 h2
    repeat fail
    obtain ⟨c, r, hc⟩ : ∃ c r, tl w = c :: r := by
      cases e : tl w with
      | nil => rw [slen, e] at h1; exact absurd h1 (by simp)
      | cons c r => exact ⟨c, r, rfl⟩
    refine p_idxD (idx_str hw (by rw [hc]; exact at0)) ?_
    repeat fail
    · rename_i h3 h4
      rw [dead fun z => by
        rcases z.2.1 with y | y
        · exact h4 y
        · rw [hc, (z0 c).mp h3] at y
          exact y rfl]
      exact ⟨rfl, Fx.refl _⟩
    · rename_i h3 h4
      repeat (first | exact rest ⟨⟨by omega, by omega⟩, .inl h4⟩ | fail)
    · rename_i h3
      have y0 : (tl w).head? ≠ some 48 := fun y => by
        rw [hc] at y
        exact h3 ((z0 c).mpr (Option.some.inj y))
      repeat (first | exact rest ⟨⟨by omega, by omega⟩, .inr y0⟩ | fail)
  · rename_i h1
    repeat fail
    rw [dead fun z => by have := z.1.1; omega]
    exact ⟨rfl, Fx.refl _⟩
end MI.P

set_option Elab.async false
set_option linter.all false
set_option maxRecDepth 100000
set_option maxHeartbeats 4000000
/-! PLAIN, part 6: the law's own words. -/
namespace MI.P
open PySem K82
open TL (tl)
local macro_rules | `(tactic| fail) => `(tactic| first
  | ((with_reducible refine e_var.mpr ?_); refine ⟨_, rfl, ?_⟩)
  | with_reducible refine e_c.mpr ?_
  | with_reducible refine e_gv.mpr ?_
  | with_reducible refine e_bin.mpr ?_
  | with_reducible refine e_cmp.mpr ?_
  | with_reducible refine e_chain.mpr ?_
  | with_reducible refine e_neg.mpr ?_
  | with_reducible refine e_not.mpr ?_
  | with_reducible refine e_and.mpr ?_
  | with_reducible refine e_or.mpr ?_
  | with_reducible refine e_ife.mpr ?_
  | with_reducible refine e_nil.mpr ?_
  | with_reducible refine e_cons.mpr ?_
  | with_reducible refine e_consT.mpr ?_
  | with_reducible refine e_consU.mpr ?_
  | with_reducible refine e_rep.mpr ?_
  | with_reducible refine e_tup.mpr ?_
  | with_reducible refine e_lst.mpr ?_
  | with_reducible refine e_idx.mpr ?_
  | with_reducible refine e_part.mpr ?_
  | with_reducible refine e_sl.mpr ?_
  | with_reducible refine e_attr.mpr ?_
  | with_reducible refine e_call.mpr ?_
  | with_reducible refine e_make.mpr ?_
  | with_reducible refine e_meth.mpr ?_
  | with_reducible refine e_bi.mpr ?_
  | with_reducible refine e_isi.mpr ?_
  | with_reducible refine e_yes.mpr ?_
  | with_reducible refine e_lc.mpr ?_
  | with_reducible refine runS_seq.mpr ?_
  | with_reducible refine t_skip.mpr ?_
  | with_reducible refine t_asg.mpr ?_
  | with_reducible refine t_setf.mpr ?_
  | with_reducible refine t_augf.mpr ?_
  | with_reducible refine t_seti.mpr ?_
  | with_reducible refine t_exp.mpr ?_
  | with_reducible refine t_ite.mpr ?_
  | with_reducible refine t_ret.mpr ?_
  | with_reducible refine t_retn.mpr ?_
  | with_reducible refine t_raise.mpr ?_
  | with_reducible refine t_for.mpr ?_
  | with_reducible refine k_nx ?_
  | with_reducible refine k_rt ?_
  | with_reducible refine k_xx ?_
  | with_reducible refine q_nx ?_
  | with_reducible refine q_rt ?_
  | with_reducible refine q_xx ?_
  | ((with_reducible refine g_isiD ?_); refine p_isiD rfl ?_)
  | ((with_reducible refine g_cmpop ?_); refine p_cmpop rfl ?_)
  | ((with_reducible refine g_binop ?_); refine p_binop rfl ?_)
  | ((with_reducible refine g_consD ?_); refine p_consD rfl ?_)
  | ((with_reducible refine g_biop ?_); refine p_biop rfl ?_)
  | ((with_reducible refine g_idxD ?_); refine p_idxD rfl ?_)
  | ((with_reducible refine g_sliD ?_); refine p_sliD rfl ?_)
  | ((with_reducible refine g_augop ?_); refine p_augop rfl ?_)
  | ((with_reducible refine g_setiD ?_); refine p_setiD rfl ?_)
  | ((with_reducible refine g_srcOf ?_); refine p_srcOf rfl ?_)
  | ((with_reducible refine g_repD ?_); refine p_repD rfl ?_)
  | with_reducible refine b_nm0 ?_
  | ((with_reducible refine b_nm ?h0 ?_); (case h0 => rfl))
  | ((with_reducible refine g_bindT ?_); refine p_bindT rfl ?_)
  | ((with_reducible refine g_itOf ?_); refine p_itOf rfl ?_)
  | ((with_reducible refine e_lam.mpr ?_); refine ⟨_, rfl, ?_⟩)
  | ((with_reducible refine t_aug.mpr ?_); refine ⟨_, rfl, ?_⟩)
  | ((with_reducible refine ex_tup ?h0 ?_); (case h0 => exact Nat.le_of_ble_eq_true rfl))
  | with_reducible refine br_t ?_
  | with_reducible refine br_f ?_
  | with_reducible refine br_nd (fun h => ?_) (fun h => ?_)
  | with_reducible refine br_d (fun h => ?_) (fun h => ?_)
  | ((with_reducible refine br_g ?_); refine br_t ?_)
  | ((with_reducible refine br_g ?_); refine br_f ?_)
  | with_reducible refine br_n (fun h => ?_) (fun h => ?_)
  | with_reducible refine br_b (fun h => ?_) (fun h => ?_)
  | with_reducible refine ⟨_, rfl, ?_⟩)
theorem z0 (c : Nat) : ((⟨#[c]⟩ : Str) = "0") ↔ c = 48 := by
  rw [str_eq]
  have : tl "0" = [48] := by decide +kernel
  rw [this]
  simp [tl]
theorem app2_0 {st : Store} {a b : Ob} : (st ++ [a] ++ [b])[st.length]? = some a := by simp
theorem app2_1 {st : Store} {a b : Ob} : (st ++ [a] ++ [b])[(st ++ [a]).length]? = some b := by simp
theorem s_wnum (n : Nat) {w : Str} {st : Store} {E : Ex → Store → Prop} (hw : w.length ≤ sizeLine) (hc : cOk w) : Run ((calls G (n + 1)).1 19 [.str w]) st (fun d s => d = optD (numO w) ∧ Fx [] st s) E := by
  refine (run_def (c := c19) rfl rfl).mpr ⟨rfl, ?_⟩
  unfold c19 startF
  have dead : ¬ ((1 ≤ w.length ∧ w.length ≤ 20) ∧ (w = "0" ∨ (tl w).head? ≠ some 48) ∧ (tl w).all digB = true) → numO w = none := fun h => by
    unfold numO
    rw [if_neg h]
  have live : ((1 ≤ w.length ∧ w.length ≤ 20) ∧ (w = "0" ∨ (tl w).head? ≠ some 48) ∧ (tl w).all digB = true) → numO w = some ((NumText.digitsVal (tl w) : Nat) : Int) := fun h => by
    unfold numO
    rw [if_pos h]
  repeat fail
  · rename_i h1
    rw [dead fun z => by
      have := z.1.1
      rw [h1] at this
      exact absurd this (by decide +kernel)]
    exact ⟨rfl, Fx.refl _⟩
  rename_i h1
  have h1 : 1 ≤ w.length := by
    rcases Nat.eq_zero_or_pos w.length with z | z
    · refine absurd (str_eq.mpr ?_) h1
      have : tl "" = [] := by decide +kernel
      rw [this]
      exact List.length_eq_zero_iff.mp (by rw [← slen]; exact z)
    · exact z
  obtain ⟨c0, r0, hc0⟩ : ∃ c r, tl w = c :: r := by
    cases e : tl w with
    | nil => rw [slen, e] at h1; exact absurd h1 (by simp)
    | cons c r => exact ⟨c, r, rfl⟩
  repeat fail
  refine p_biop (len_str hw) ?_
  repeat fail
  · rename_i h2
    rw [dead fun z => by have := z.1.2; omega]
    exact ⟨rfl, Fx.refl _⟩
  rename_i h2
  repeat fail
  refine ⟨by show ((tl w).map _).length ≤ _; rw [List.length_map, ← slen]; exact hw, ?_⟩
  refine (run_eq (lc_pure (g := fun d => match d with | .str z => if digB (z.cps.getD 0 0) = true then none else some d | _ => none) chk_nil fun d hd => ?_)).mpr ?_
  · obtain ⟨c, _, rfl⟩ := List.mem_map.mp hd
    refine run_to (lcT_run.mpr ?_)
    repeat fail
    · rename_i h
      have h : digB c = false := decide_eq_false h
      repeat fail
      exact ⟨by show some _ = ite _ _ _; rw [show (#[c] : Array Nat).getD 0 0 = c from rfl, h]; rfl, rfl⟩
    · rename_i h
      have h : digB c = true := decide_eq_true h
      repeat fail
      exact ⟨by show none = ite _ _ _; rw [show (#[c] : Array Nat).getD 0 0 = c from rfl, h]; rfl, rfl⟩
  have e : List.filterMap (fun d => match d with | .str z => if digB (z.cps.getD 0 0) = true then none else some d | _ => none) (chD w) = ((tl w).filter fun c => !digB c).map fun c => D.str ⟨#[c]⟩ := by
    unfold chD
    rw [List.filterMap_map]
    induction tl w with
    | nil => rfl
    | cons c r ih =>
      rw [List.filterMap_cons, List.filter_cons, ih]
      have e0 : (#[c] : Array Nat).getD 0 0 = c := rfl
      cases h : digB c <;> simp [e0, h]
  rw [show List.filterMap (fun d => match d with | .str z => if digB (z.cps.getD 0 0) = true then none else some d | _ => none) (List.map (fun c => D.str ⟨#[c]⟩) w.cps.toList, ([] : List (Nat × List D))).1 = _ from e]
  repeat fail
  refine p_cmpop (r_nen (.inl app2_0) app2_1 fun d hd => ?_) ?_
  · obtain ⟨c, hm, rfl⟩ := List.mem_map.mp hd
    intro x hx
    obtain rfl : x = c := by simpa using hx
    exact hc x (List.mem_filter.mp hm).1
  cases hb : (tl w).all digB with
  | false =>
    have e2 : (((tl w).filter fun c => !digB c).map fun c => D.str ⟨#[c]⟩).isEmpty = false := by
      obtain ⟨c, hc, h⟩ := List.all_eq_false.mp hb
      rw [List.isEmpty_map]
      cases q : (tl w).filter fun c => !digB c with
      | nil => exact absurd (List.filter_eq_nil_iff.mp q c hc) (by simpa using h)
      | cons a b => rfl
    rw [e2]
    repeat fail
    rw [dead fun z => by rw [hb] at z; exact Bool.noConfusion z.2.2]
    exact ⟨rfl, (Fx.app _ _).trans (Fx.app _ _)⟩
  | true =>
    have e2 : (((tl w).filter fun c => !digB c).map fun c => D.str ⟨#[c]⟩).isEmpty = true := by
      rw [List.isEmpty_map, List.isEmpty_iff, List.filter_eq_nil_iff]
      intro c hc
      simp [List.all_eq_true.mp hb c hc]
    rw [e2]
    repeat fail
    · rename_i h3
      refine p_biop (int_word (by omega) (by omega) hb) ?_
      repeat fail
      rw [live ⟨⟨h1, by omega⟩, .inl h3, hb⟩]
      exact ⟨rfl, (Fx.app _ _).trans (Fx.app _ _)⟩
    · rename_i h3
      repeat fail
      refine p_idxD (idx_str hw (by rw [hc0]; exact at0)) ?_
      repeat fail
      · rename_i h4
        refine p_biop (int_word (by omega) (by omega) hb) ?_
        repeat fail
        rw [live ⟨⟨h1, by omega⟩, .inr fun y => by rw [hc0] at y; exact h4 ((z0 c0).mpr (Option.some.inj y)), hb⟩]
        exact ⟨rfl, (Fx.app _ _).trans (Fx.app _ _)⟩
      · rename_i h4
        repeat fail
        rw [dead fun z => by
          rcases z.2.1 with y | y
          · exact h3 y
          · rw [hc0, (z0 c0).mp h4] at y
            exact y rfl]
        exact ⟨rfl, (Fx.app _ _).trans (Fx.app _ _)⟩
/-- a number of a word, from lo to hi -/
def inO (w : Str) (lo hi : Int) : Option Int := (numO w).filter fun i => decide (lo ≤ i) && decide (i ≤ hi)
theorem s_wordin (n : Nat) {w : Str} {lo hi : Int} {st : Store} {E : Ex → Store → Prop} (hw : w.length ≤ sizeLine) (hc : cOk w) : Run ((calls G (n + 2)).1 20 [.str w, .int lo, .int hi]) st (fun d s => d = optD (inO w lo hi) ∧ Fx [] st s) E := by
  refine (run_def (c := c20) rfl rfl).mpr ⟨rfl, ?_⟩
  unfold c20 startF
  repeat fail
  refine (s_wnum n hw hc).to fun d s h => ?_
  · obtain ⟨rfl, hfx⟩ := h
    unfold inO
    cases numO w with
    | none =>
      repeat fail
      all_goals exact ⟨rfl, hfx⟩
    | some i =>
      repeat fail
      · rename_i h1 h2
        exact ⟨by simp [optD, Option.filter, h1, h2], hfx⟩
      · rename_i h1 h2
        repeat fail
        exact ⟨by simp [optD, Option.filter, h1, h2], hfx⟩
      · rename_i h1
        repeat fail
        exact ⟨by simp [optD, Option.filter, h1], hfx⟩
/-- a list of texts -/
def LS (st : Store) (l : Nat) (ss : List Str) : Prop := st[l]? = some (.lst (ss.map .str))
theorem LS.fx {S : List Nat} {st st' : Store} {l : Nat} {ss : List Str} (h : LS st l ss) (f : Fx S st st') (hs : l ∉ S := by simp) : LS st' l ss := f.get h hs
theorem s_wordat (n : Nat) {l : Nat} {ss : List Str} {i : Nat} {st : Store} (h : LS st l ss) : (calls G (n + 1)).1 21 [.loc l, .int (i : Int)] st = .ok (.str (ss.getD i "")) st := by
  refine run_to ((run_def (c := c21) rfl rfl).mpr ⟨rfl, ?_⟩)
  unfold c21 startF
  repeat fail
  refine p_biop (len_loc (.inl h)) ?_
  repeat fail
  · rename_i h1
    rw [List.length_map] at h1
    have h1 : i < ss.length := by omega
    refine p_idxD (idx_loc (.inl h) (atN (by rw [List.getElem?_map, List.getElem?_eq_getElem h1]; rfl))) ?_
    repeat fail
    exact ⟨by simp [h1], rfl⟩
  · rename_i h1
    rw [List.length_map] at h1
    repeat fail
    exact ⟨by rw [List.getD_eq_getElem?_getD, List.getElem?_eq_none (by omega)]; rfl, rfl⟩
end MI.P

set_option Elab.async false
set_option linter.all false
set_option maxRecDepth 100000
set_option maxHeartbeats 4000000
/-! PLAIN, part 7: the law's own reader. -/
namespace MI.P
open PySem K82
open TL (tl)
local macro_rules | `(tactic| fail) => `(tactic| first
  | ((with_reducible refine e_var.mpr ?_); refine ⟨_, rfl, ?_⟩)
  | with_reducible refine e_c.mpr ?_
  | with_reducible refine e_gv.mpr ?_
  | with_reducible refine e_bin.mpr ?_
  | with_reducible refine e_cmp.mpr ?_
  | with_reducible refine e_chain.mpr ?_
  | with_reducible refine e_neg.mpr ?_
  | with_reducible refine e_not.mpr ?_
  | with_reducible refine e_and.mpr ?_
  | with_reducible refine e_or.mpr ?_
  | with_reducible refine e_ife.mpr ?_
  | with_reducible refine e_nil.mpr ?_
  | with_reducible refine e_cons.mpr ?_
  | with_reducible refine e_consT.mpr ?_
  | with_reducible refine e_consU.mpr ?_
  | with_reducible refine e_rep.mpr ?_
  | with_reducible refine e_tup.mpr ?_
  | with_reducible refine e_lst.mpr ?_
  | with_reducible refine e_idx.mpr ?_
  | with_reducible refine e_part.mpr ?_
  | with_reducible refine e_sl.mpr ?_
  | with_reducible refine e_attr.mpr ?_
  | with_reducible refine e_call.mpr ?_
  | with_reducible refine e_make.mpr ?_
  | with_reducible refine e_meth.mpr ?_
  | with_reducible refine e_bi.mpr ?_
  | with_reducible refine e_isi.mpr ?_
  | with_reducible refine e_yes.mpr ?_
  | with_reducible refine e_lc.mpr ?_
  | with_reducible refine runS_seq.mpr ?_
  | with_reducible refine t_skip.mpr ?_
  | with_reducible refine t_asg.mpr ?_
  | with_reducible refine t_setf.mpr ?_
  | with_reducible refine t_augf.mpr ?_
  | with_reducible refine t_seti.mpr ?_
  | with_reducible refine t_exp.mpr ?_
  | with_reducible refine t_ite.mpr ?_
  | with_reducible refine t_ret.mpr ?_
  | with_reducible refine t_retn.mpr ?_
  | with_reducible refine t_raise.mpr ?_
  | with_reducible refine t_for.mpr ?_
  | with_reducible refine k_nx ?_
  | with_reducible refine k_rt ?_
  | with_reducible refine k_xx ?_
  | with_reducible refine q_nx ?_
  | with_reducible refine q_rt ?_
  | with_reducible refine q_xx ?_
  | ((with_reducible refine g_isiD ?_); refine p_isiD rfl ?_)
  | ((with_reducible refine g_cmpop ?_); refine p_cmpop rfl ?_)
  | ((with_reducible refine g_binop ?_); refine p_binop rfl ?_)
  | ((with_reducible refine g_consD ?_); refine p_consD rfl ?_)
  | ((with_reducible refine g_biop ?_); refine p_biop rfl ?_)
  | ((with_reducible refine g_idxD ?_); refine p_idxD rfl ?_)
  | ((with_reducible refine g_sliD ?_); refine p_sliD rfl ?_)
  | ((with_reducible refine g_augop ?_); refine p_augop rfl ?_)
  | ((with_reducible refine g_setiD ?_); refine p_setiD rfl ?_)
  | ((with_reducible refine g_srcOf ?_); refine p_srcOf rfl ?_)
  | ((with_reducible refine g_repD ?_); refine p_repD rfl ?_)
  | with_reducible refine b_nm0 ?_
  | ((with_reducible refine b_nm ?h0 ?_); (case h0 => rfl))
  | ((with_reducible refine g_bindT ?_); refine p_bindT rfl ?_)
  | ((with_reducible refine g_itOf ?_); refine p_itOf rfl ?_)
  | ((with_reducible refine e_lam.mpr ?_); refine ⟨_, rfl, ?_⟩)
  | ((with_reducible refine t_aug.mpr ?_); refine ⟨_, rfl, ?_⟩)
  | ((with_reducible refine ex_tup ?h0 ?_); (case h0 => exact Nat.le_of_ble_eq_true rfl))
  | with_reducible refine br_t ?_
  | with_reducible refine br_f ?_
  | with_reducible refine br_nd (fun h => ?_) (fun h => ?_)
  | with_reducible refine br_d (fun h => ?_) (fun h => ?_)
  | ((with_reducible refine br_g ?_); refine br_t ?_)
  | ((with_reducible refine br_g ?_); refine br_f ?_)
  | with_reducible refine br_n (fun h => ?_) (fun h => ?_)
  | with_reducible refine br_b (fun h => ?_) (fun h => ?_)
  | with_reducible refine ⟨_, rfl, ?_⟩)
theorem rng0 (n : Nat) : rngL 0 (n : Int) = (List.range' 0 n).map fun (k : Nat) => D.int (k : Int) := by
  unfold rngL
  rw [List.range_eq_range']
  simp
theorem itr {n : Nat} {y : D} {st : Store} (h : n < 1000000) : itOf .rng1 (.int (n : Int)) y st = .ok ((List.range' 0 n).map fun (k : Nat) => D.int (k : Int), []) st := by
  have e : smallI (n : Int) = true := by
    unfold smallI
    simp
    omega
  unfold itOf
  simp only [e]
  rw [← rng0]
  rfl
def firstB (k : Nat) : Nat → List Bool → Option Nat
  | _, [] => none
  | i, b :: r => if k ≤ i ∨ b = false then some i else firstB k (i + 1) r
def wrongW (k : Nat) (bs : List Bool) : Option Nat := match firstB k 0 bs with
  | some i => some i
  | none => if bs.length < k then some bs.length else none
def optN : Option Nat → D
  | some i => .int (i : Int)
  | none => .non
theorem s_wrong (n : Nat) {l m : Nat} {ds : List D} {bs : List Bool} {st : Store} (h1 : st[l]? = some (.lst ds)) (h2 : st[m]? = some (.lst (bs.map .bl))) (hl : bs.length < 1000) : (calls G (n + 1)).1 22 [.loc l, .loc m] st = .ok (optN (wrongW ds.length bs)) st := by
  refine run_to ((run_def (c := c22) rfl rfl).mpr ⟨rfl, ?_⟩)
  unfold c22 startF
  repeat fail
  refine p_biop (len_loc (.inl h2)) ?_
  repeat fail
  rw [List.length_map]
  have hi := itr (n := bs.length) (y := .bl true) (st := st) (by omega)
  with_reducible refine p_itOf hi ?_
  refine for_run (fun r fr s => ∃ i x, r = ((List.range' i (bs.length - i)).map fun (k : Nat) => D.int (k : Int)) ∧ i ≤ bs.length ∧ fr = ⟨[some (.loc l), some (.loc m), x], []⟩ ∧ s = st ∧ firstB ds.length 0 bs = firstB ds.length i (bs.drop i)) (fun _ _ _ _ => rfl) ?_ ?_ _ _ _ ⟨0, none, rfl, Nat.zero_le _, rfl, rfl, rfl⟩
  · rintro d r fr s ⟨i, x, e, hi, rfl, rfl, hf⟩
    have hlt : i < bs.length := by
      rcases Nat.lt_or_ge i bs.length with z | z
      · exact z
      · rw [show bs.length - i = 0 by omega] at e
        cases e
    rw [show bs.length - i = (bs.length - (i + 1)) + 1 by omega, List.range'_succ, List.map_cons] at e
    obtain ⟨rfl, rfl⟩ := List.cons.inj e
    have eb : bs.drop i = bs[i] :: bs.drop (i + 1) := List.drop_eq_getElem_cons hlt
    rw [eb] at hf
    refine runS_ex.mpr ?_
    repeat fail
    refine p_biop (len_loc (.inl h1)) ?_
    repeat fail
    · rename_i h
      show _ = _ ∧ _
      have : firstB ds.length 0 bs = some i := by
        rw [hf]
        unfold firstB
        rw [if_pos (.inl (by omega))]
      unfold wrongW
      rw [this]
      exact ⟨rfl, rfl⟩
    · rename_i h
      repeat fail
      refine p_idxD (idx_loc (.inl h2) (atN (by rw [List.getElem?_map, List.getElem?_eq_getElem hlt]; rfl))) ?_
      repeat fail
      · rename_i h3
        have : firstB ds.length 0 bs = some i := by
          rw [hf]
          unfold firstB
          rw [if_pos (.inr h3)]
        show _ = _ ∧ _
        unfold wrongW
        rw [this]
        exact ⟨rfl, rfl⟩
      · rename_i h3
        repeat fail
        refine ⟨i + 1, _, rfl, by omega, rfl, rfl, ?_⟩
        rw [hf]
        rw [firstB, if_neg (fun z => z.elim (fun z => by omega) fun z => by rw [h3] at z; cases z)]
  · rintro fr s ⟨i, x, e, hi, rfl, rfl, hf⟩
    have : bs.length - i = 0 := by
      cases q : bs.length - i with
      | zero => rfl
      | succ k => rw [q, List.range'_succ] at e; cases e
    rw [show i = bs.length by omega, List.drop_length] at hf
    have hf : firstB ds.length 0 bs = none := hf
    repeat fail
    refine p_biop (len_loc (.inl h1)) ?_
    repeat fail
    refine p_biop (len_loc (.inl h2)) ?_
    repeat fail
    · rename_i h
      rw [List.length_map] at h
      refine p_biop (len_loc (.inl h2)) ?_
      repeat fail
      unfold wrongW
      rw [hf]
      simp only
      rw [if_pos (by omega), List.length_map]
      exact ⟨rfl, trivial⟩
    · rename_i h
      rw [List.length_map] at h
      repeat fail
      unfold wrongW
      rw [hf]
      simp only
      rw [if_neg (by omega)]
      exact ⟨rfl, trivial⟩
theorem s_textwrong (n : Nat) {t : Str} {st : Store} (ht : t.length ≤ sizeLine) : (calls G (n + 1)).1 18 [.str t, .int 400000] st = .ok (if t.length ≤ 400000 then .non else .tup [.str "TooMany", .int t.length]) st := by
  refine run_to ((run_def (c := c18) rfl rfl).mpr ⟨rfl, ?_⟩)
  unfold c18 startF
  repeat fail
  refine p_biop (len_str ht) ?_
  repeat fail
  · rename_i h
    refine p_biop (len_str ht) ?_
    repeat fail
    rw [if_neg (by omega)]
    exact ⟨rfl, rfl⟩
  · rename_i h
    repeat fail
    rw [if_pos (by omega)]
    exact ⟨rfl, rfl⟩
end MI.P

set_option Elab.async false
set_option linter.all false
set_option maxRecDepth 100000
set_option maxHeartbeats 4000000
/-! PLAIN, part 8: the law's own reader of keys. -/
namespace MI.P
open PySem K82
open TL (tl)
local macro_rules | `(tactic| fail) => `(tactic| first
  | ((with_reducible refine e_var.mpr ?_); refine ⟨_, rfl, ?_⟩)
  | with_reducible refine e_c.mpr ?_
  | with_reducible refine e_gv.mpr ?_
  | with_reducible refine e_bin.mpr ?_
  | with_reducible refine e_cmp.mpr ?_
  | with_reducible refine e_chain.mpr ?_
  | with_reducible refine e_neg.mpr ?_
  | with_reducible refine e_not.mpr ?_
  | with_reducible refine e_and.mpr ?_
  | with_reducible refine e_or.mpr ?_
  | with_reducible refine e_ife.mpr ?_
  | with_reducible refine e_nil.mpr ?_
  | with_reducible refine e_cons.mpr ?_
  | with_reducible refine e_consT.mpr ?_
  | with_reducible refine e_consU.mpr ?_
  | with_reducible refine e_rep.mpr ?_
  | with_reducible refine e_tup.mpr ?_
  | with_reducible refine e_lst.mpr ?_
  | with_reducible refine e_idx.mpr ?_
  | with_reducible refine e_part.mpr ?_
  | with_reducible refine e_sl.mpr ?_
  | with_reducible refine e_attr.mpr ?_
  | with_reducible refine e_call.mpr ?_
  | with_reducible refine e_make.mpr ?_
  | with_reducible refine e_meth.mpr ?_
  | with_reducible refine e_bi.mpr ?_
  | with_reducible refine e_isi.mpr ?_
  | with_reducible refine e_yes.mpr ?_
  | with_reducible refine e_lc.mpr ?_
  | with_reducible refine runS_seq.mpr ?_
  | with_reducible refine t_skip.mpr ?_
  | with_reducible refine t_asg.mpr ?_
  | with_reducible refine t_setf.mpr ?_
  | with_reducible refine t_augf.mpr ?_
  | with_reducible refine t_seti.mpr ?_
  | with_reducible refine t_exp.mpr ?_
  | with_reducible refine t_ite.mpr ?_
  | with_reducible refine t_ret.mpr ?_
  | with_reducible refine t_retn.mpr ?_
  | with_reducible refine t_raise.mpr ?_
  | with_reducible refine t_for.mpr ?_
  | with_reducible refine k_nx ?_
  | with_reducible refine k_rt ?_
  | with_reducible refine k_xx ?_
  | with_reducible refine q_nx ?_
  | with_reducible refine q_rt ?_
  | with_reducible refine q_xx ?_
  | ((with_reducible refine g_isiD ?_); refine p_isiD rfl ?_)
  | ((with_reducible refine g_cmpop ?_); refine p_cmpop rfl ?_)
  | ((with_reducible refine g_binop ?_); refine p_binop rfl ?_)
  | ((with_reducible refine g_consD ?_); refine p_consD rfl ?_)
  | ((with_reducible refine g_biop ?_); refine p_biop rfl ?_)
  | ((with_reducible refine g_idxD ?_); refine p_idxD rfl ?_)
  | ((with_reducible refine g_sliD ?_); refine p_sliD rfl ?_)
  | ((with_reducible refine g_augop ?_); refine p_augop rfl ?_)
  | ((with_reducible refine g_setiD ?_); refine p_setiD rfl ?_)
  | ((with_reducible refine g_srcOf ?_); refine p_srcOf rfl ?_)
  | ((with_reducible refine g_repD ?_); refine p_repD rfl ?_)
  | with_reducible refine b_nm0 ?_
  | ((with_reducible refine b_nm ?h0 ?_); (case h0 => rfl))
  | ((with_reducible refine g_bindT ?_); refine p_bindT rfl ?_)
  | ((with_reducible refine g_itOf ?_); refine p_itOf rfl ?_)
  | ((with_reducible refine e_lam.mpr ?_); refine ⟨_, rfl, ?_⟩)
  | ((with_reducible refine t_aug.mpr ?_); refine ⟨_, rfl, ?_⟩)
  | ((with_reducible refine ex_tup ?h0 ?_); (case h0 => exact Nat.le_of_ble_eq_true rfl))
  | with_reducible refine br_t ?_
  | with_reducible refine br_f ?_
  | with_reducible refine br_nd (fun h => ?_) (fun h => ?_)
  | with_reducible refine br_d (fun h => ?_) (fun h => ?_)
  | ((with_reducible refine br_g ?_); refine br_t ?_)
  | ((with_reducible refine br_g ?_); refine br_f ?_)
  | with_reducible refine br_n (fun h => ?_) (fun h => ?_)
  | with_reducible refine br_b (fun h => ?_) (fun h => ?_)
  | with_reducible refine ⟨_, rfl, ?_⟩)
theorem Fx.setNew {S : List Nat} {a b : Store} (h : Fx S a b) {l : Nat} {o : Ob} (hl : a.length ≤ l) : Fx S a (b.set l o) := ⟨by simpa using h.1, fun k hk hs => by rw [List.getElem?_set_ne (by omega)]; exact h.2 k hk hs⟩
theorem Fx.apps {S : List Nat} {a b : Store} (h : Fx S a b) (j : Store) : Fx S a (b ++ j) := h.trans (Fx.app b j)
theorem p_methD {G : GP} {cf : Nat → List D → M D} {x : D} {m : Str} {as : List D} {v : D} {st st' : Store} {Q : D → Store → Prop} {E : Ex → Store → Prop} (h : methD G cf x m as st = .ok v st') (k : Q v st') : Run (methD G cf x m as) st Q E := (run_eq h).mpr k
theorem ok_str {G : GP} {s m : Str} {st : Store} (h : (smOf m).isSome = true) : methOk G (.str s) m st = .ok () st := by
  show guard (smOf m).isSome st = _
  rw [h]
  rfl
theorem sm_split : smOf "split" = some .split := by
  unfold smOf
  rw [if_neg (by decide +kernel), if_pos (by decide +kernel)]
theorem sm_join : smOf "join" = some .join := by
  unfold smOf
  rw [if_neg (by decide +kernel), if_neg (by decide +kernel), if_pos (by decide +kernel)]
theorem m_split {G : GP} {cf : Nat → List D → M D} {s b : Str} {st : Store} (hb : b.length ≠ 0) (hs : s.length + 2 ≤ sizeLine) : methD G cf (.str s) "split" [.str b] st = .ok (.loc st.length) (st ++ [.lst ((Txt.split s b).map .str)]) := by
  show (match smOf "split" with
    | some k => strM k s [.str b]
    | none => no) st = _
  rw [sm_split]
  show bnd (guard (!(b.length == 0) && decide (s.length + 2 ≤ sizeLine))) (fun _ => alloc (.lst ((Txt.split s b).map .str))) st = _
  have : (!(b.length == 0) && decide (s.length + 2 ≤ sizeLine)) = true := by simp [hb, hs]
  rw [this]
  rfl
theorem len_nl : ("\n" : Str).length ≠ 0 := by decide +kernel
theorem len_sp : (" " : Str).length ≠ 0 := by decide +kernel
theorem add_loc {l k : Nat} {xs ys : List D} {st : Store} (h1 : st[l]? = some (.lst xs)) (h2 : st[k]? = some (.lst ys)) (h : xs.length + ys.length ≤ sizeLine) : binop .add (.loc l) (.loc k) st = .ok (.loc st.length) (st ++ [.lst (xs ++ ys)]) := by
  show (match st[l]?, st[k]? with
    | some (.lst xs), some (.lst ys) => bnd (guard (decide (xs.length + ys.length ≤ sizeLine))) (fun _ => alloc (.lst (xs ++ ys))) st
    | _, _ => .no) = _
  rw [h1, h2]
  simp only [decide_eq_true h]
  rfl
theorem tuple_loc {l : Nat} {ds : List D} {st : Store} (h : st[l]? = some (.lst ds)) : biop .tuple [.loc l] st = .ok (.tup ds) st := by
  show bnd (seqOf (.loc l)) (fun ds => ret (D.tup ds)) st = _
  unfold bnd seqOf
  simp only [h]
  rfl
theorem src_loc {l : Nat} {ds : List D} {y : D} {st : Store} (h : st[l]? = some (.lst ds)) : itOf .seq (.loc l) y st = .ok (ds, [(l, ds)]) st := by
  show srcOf (.loc l) st = _
  unfold srcOf
  simp only [h]
/-- the bounds: a list of pairs -/
def bndD (bs : List (Int × Int)) : List D := bs.map fun b => .tup [.int b.1, .int b.2]
def foundO (W : List Str) (bs : List (Int × Int)) : List (Option Int) := (List.range' 0 bs.length).map fun i => inO (W.getD (1 + i) "") (bs.getD i (0, 0)).1 (bs.getD i (0, 0)).2
def letsB (first : Str) (W : List Str) (bs : List (Int × Int)) : List Bool := decide (W.getD 0 "" = first) :: (foundO W bs).map Option.isSome
def readW (t first : Str) (bs : List (Int × Int)) : D :=
  let L := Txt.split t "\n"
  let W := Txt.split (L.getD 0 "") " "
  if t.length ≤ 400000 then match wrongW W.length (letsB first W bs) with
    | some k => .tup [.str "WrongLine", .tup [.int 0, .int (k : Int)]]
    | none => if L.length = 1 then .tup [.str "told", .tup ((foundO W bs).map optD)] else .tup [.str "WrongLine", .tup [.int 1, .int 0]]
  else .tup [.str "TooMany", .int t.length]
theorem get_parts {t y : Str} {i : Nat} (ht : cOk t) : cOk ((Txt.split t y).getD i "") ∧ ((Txt.split t y).getD i "").length ≤ t.length := by
  rw [List.getD_eq_getElem?_getD]
  cases e : (Txt.split t y)[i]? with
  | none =>
    have e0 : tl ("" : Str) = [] := by decide +kernel
    refine ⟨fun c hc => ?_, ?_⟩
    · have hc : c ∈ tl ("" : Str) := hc
      rw [e0] at hc
      cases hc
    · show ("" : Str).length ≤ _
      rw [slen, e0]
      exact Nat.zero_le _
  | some p =>
    obtain ⟨h1, h2⟩ := split_mem (List.mem_of_getElem? e)
    exact ⟨fun c hc => ht c (h1 c hc), h2⟩
theorem sizeL : sizeLine = 16777216 := by decide
theorem fx_end {S : List Nat} {a b : Store} (h : Fx S a b) : Fx S a b := h
theorem found_len (W : List Str) (bs : List (Int × Int)) : (foundO W bs).length = bs.length := by
  unfold foundO
  simp
theorem s_readwords (n : Nat) {t first : Str} {b : Nat} {bs : List (Int × Int)} {st : Store} (ht : t.length ≤ 1000000) (hc : cOk t) (hb : st[b]? = some (.lst (bndD bs))) (hn : bs.length ≤ 100) :
    Run ((calls G (n + 3)).1 23 [.str t, .str first, .loc b]) st (fun d s => d = readW t first bs ∧ Fx [] st s) fun _ _ => False := by
  have hz := sizeL
  refine rd_defC [some (.str t), some (.str first), some (.loc b), none, none, none, none, none, none] [(2, st.length), (5, st.length + 1)] [.cell (some (.loc b)), .cell none] rfl rfl rfl rfl rfl rfl ?_
  unfold c23
  repeat fail
  refine (run_eq (s_textwrong (t := t) (n + 1) (by omega))).mpr ?_
  by_cases h4 : t.length ≤ 400000
  rotate_left
  · rw [if_neg h4]
    repeat fail
    refine ⟨by unfold readW; simp only [if_neg h4], ?_⟩
    exact Fx.kill (Fx.app _ _) (Nat.le_refl _)
  rw [if_pos h4]
  repeat fail
  refine p_methOk (ok_str (by rw [sm_split]; rfl)) ?_
  repeat fail
  refine p_methD (m_split len_nl (by omega)) ?_
  repeat fail
  obtain ⟨l0, lr, hL⟩ : ∃ l0 lr, Txt.split t "\n" = l0 :: lr := by
    cases e : Txt.split t "\n" with
    | nil => exact absurd e (split_ne _ _ (.inr len_nl))
    | cons a r => exact ⟨a, r, rfl⟩
  have hl0 := split_mem (x := t) (y := "\n") (p := l0) (by rw [hL]; exact List.mem_cons_self)
  have c0 : cOk l0 := fun c h => hc c (hl0.1 c h)
  obtain ⟨w0, wr, hW⟩ : ∃ w0 wr, Txt.split l0 " " = w0 :: wr := by
    cases e : Txt.split l0 " " with
    | nil => exact absurd e (split_ne _ _ (.inr len_sp))
    | cons a r => exact ⟨a, r, rfl⟩
  refine p_idxD (idx_loc (.inl app_at) (by rw [hL]; exact at0)) ?_
  refine p_methOk (ok_str (by rw [sm_split]; rfl)) ?_
  repeat fail
  refine p_methD (m_split len_sp (by omega)) ?_
  refine b_nmC rfl ?_
  have hS0 : Fx [] st ((st ++ [Ob.cell (some (.loc b)), .cell none] ++ [Ob.lst ((Txt.split t "\n").map .str)] ++ [Ob.lst ((Txt.split l0 " ").map .str)]).set (st.length + 1) (.cell (some (.loc (st ++ [Ob.cell (some (.loc b)), .cell none] ++ [Ob.lst ((Txt.split t "\n").map .str)]).length)))) := (((Fx.app st _).apps _).apps _).setNew (by omega)
  have hS1 : ((st ++ [Ob.cell (some (.loc b)), .cell none] ++ [Ob.lst ((Txt.split t "\n").map .str)] ++ [Ob.lst ((Txt.split l0 " ").map .str)]).set (st.length + 1) (.cell (some (.loc (st ++ [Ob.cell (some (.loc b)), .cell none] ++ [Ob.lst ((Txt.split t "\n").map .str)]).length))))[(st ++ [Ob.cell (some (.loc b)), .cell none] ++ [Ob.lst ((Txt.split t "\n").map .str)]).length]? = some (.lst ((Txt.split l0 " ").map .str)) := by
    rw [List.getElem?_set_ne (by simp only [List.length_append, List.length_cons, List.length_nil]; omega)]
    exact app_at
  have hS2 : ((st ++ [Ob.cell (some (.loc b)), .cell none] ++ [Ob.lst ((Txt.split t "\n").map .str)] ++ [Ob.lst ((Txt.split l0 " ").map .str)]).set (st.length + 1) (.cell (some (.loc (st ++ [Ob.cell (some (.loc b)), .cell none] ++ [Ob.lst ((Txt.split t "\n").map .str)]).length))))[(st ++ [Ob.cell (some (.loc b)), .cell none]).length]? = some (.lst ((Txt.split t "\n").map .str)) := by
    rw [List.getElem?_set_ne (by simp), List.getElem?_append_left (by simp)]
    exact app_at
  generalize ((st ++ [Ob.cell (some (.loc b)), .cell none] ++ [Ob.lst ((Txt.split t "\n").map .str)] ++ [Ob.lst ((Txt.split l0 " ").map .str)]).set (st.length + 1) (.cell (some (.loc (st ++ [Ob.cell (some (.loc b)), .cell none] ++ [Ob.lst ((Txt.split t "\n").map .str)]).length)))) = S at hS0 hS1 hS2 ⊢
  generalize (st ++ [Ob.cell (some (.loc b)), .cell none] ++ [Ob.lst ((Txt.split t "\n").map .str)]).length = kw at hS1 ⊢
  generalize (st ++ [Ob.cell (some (.loc b)), .cell none]).length = kl at hS2 ⊢
  have hb' := hS0.get hb (by simp)
  repeat fail
  refine p_biop (len_loc (.inl hb')) ?_
  repeat fail
  have eb : (bndD bs).length = bs.length := by simp [bndD]
  rw [eb]
  with_reducible refine p_itOf (itr (by omega)) ?_
  refine ⟨by show (List.map _ _).length ≤ _; simp; omega, ?_⟩
  refine (lc_run (fun r a s => ∃ i, r = ((List.range' i (bs.length - i)).map fun (k : Nat) => D.int (k : Int)) ∧ i ≤ bs.length ∧ a = ((List.range' 0 i).map fun i => optD (inO ((Txt.split l0 " ").getD (1 + i) "") (bs.getD i (0, 0)).1 (bs.getD i (0, 0)).2)) ∧ Fx [] S s) (fun _ _ _ _ => rfl) ?_ _ [] _ ⟨0, rfl, Nat.zero_le _, rfl, Fx.refl _⟩).to fun res s k => ?_
  · rintro d r a s ⟨i, e, hi, rfl, fs⟩
    have hlt : i < bs.length := by
      rcases Nat.lt_or_ge i bs.length with z | z
      · exact z
      · rw [show bs.length - i = 0 by omega] at e
        cases e
    rw [show bs.length - i = (bs.length - (i + 1)) + 1 by omega, List.range'_succ, List.map_cons] at e
    obtain ⟨rfl, rfl⟩ := List.cons.inj e
    refine lcT_run.mpr ?_
    repeat fail
    have e1 : (1 : Int) + (i : Int) = ((1 + i : Nat) : Int) := by simp
    rw [e1]
    refine (run_eq (s_wordat (n + 1) (ss := Txt.split l0 " ") (fs.get hS1 (by simp)))).mpr ?_
    repeat fail
    have hbi : (bndD bs)[i]? = some (.tup [.int (bs.getD i (0, 0)).1, .int (bs.getD i (0, 0)).2]) := by
      unfold bndD
      rw [List.getElem?_map, List.getElem?_eq_getElem hlt]
      simp [hlt]
    refine p_idxD (idx_loc (.inl (fs.get hb' (by simp))) (atN hbi)) ?_
    repeat fail
    refine p_idxD (idx_loc (.inl (fs.get hb' (by simp))) (atN hbi)) ?_
    repeat fail
    obtain ⟨g1, g2⟩ := get_parts (t := l0) (y := " ") (i := 1 + i) c0
    refine (s_wordin n (by omega) g1).to fun d s' h => ?_
    obtain ⟨rfl, f'⟩ := h
    refine ⟨i + 1, rfl, by omega, ?_, fs.trans f'⟩
    rw [List.range'_1_concat, List.map_append]
    first | rfl | simp
  obtain ⟨i, e, hi, er, fs⟩ := k
  have hi2 : i = bs.length := by
    have : bs.length - i = 0 := by
      cases q : bs.length - i with
      | zero => rfl
      | succ k => rw [q, List.range'_succ] at e; cases e
    omega
  subst hi2
  have er : res = (foundO (Txt.split l0 " ") bs).map optD := by
    rw [List.nil_append] at er
    rw [er]
    unfold foundO
    rw [List.map_map]
    rfl
  subst er
  generalize hF : foundO (Txt.split l0 " ") bs = F
  have lF : F.length = bs.length := by rw [← hF, found_len]
  have gW : (s ++ [Ob.lst (F.map optD)])[kw]? = some (.lst ((Txt.split l0 " ").map .str)) := (fs.apps _).get hS1 (by simp)
  have gF : (s ++ [Ob.lst (F.map optD)])[s.length]? = some (.lst (F.map optD)) := app_at
  have gL : (s ++ [Ob.lst (F.map optD)])[kl]? = some (.lst ((Txt.split t "\n").map .str)) := (fs.apps _).get hS2 (by simp)
  have gX : Fx [] st (s ++ [Ob.lst (F.map optD)]) := hS0.trans (fs.apps _)
  repeat fail
  generalize (s ++ [Ob.lst (F.map optD)]) = S2 at gW gF gL gX ⊢
  generalize s.length = kf at gF ⊢
  refine p_idxD (idx_loc (.inl gW) (by rw [hW]; exact at0)) ?_
  repeat fail
  refine p_itOf (src_loc (List.getElem?_append_left (List.getElem?_eq_some_iff.mp gF).1 ▸ gF)) ?_
  refine ⟨by show (List.map _ _).length ≤ _; simp; omega, ?_⟩
  refine (run_eq (lc_pure (g := fun d => some (.bl (!isNonB d))) (chk_at (.inl (List.getElem?_append_left (List.getElem?_eq_some_iff.mp gF).1 ▸ gF))) fun d hd => ?_)).mpr ?_
  · refine run_to (lcT_run.mpr ?_)
    repeat fail
    exact ⟨rfl, rfl⟩
  have e1 : (List.filterMap (fun d => some (D.bl (!isNonB d))) (F.map optD)) = (F.map Option.isSome).map .bl := by
    rw [fm_some, List.map_map, List.map_map]
    refine List.map_congr_left fun o _ => ?_
    cases o <;> rfl
  rw [show List.filterMap (fun d => some (D.bl (!isNonB d))) (List.map optD F, [(kf, List.map optD F)]).1 = _ from e1]
  repeat fail
  refine p_binop (add_loc app2_0 app2_1 (by simp; omega)) ?_
  repeat fail
  have e2 : [D.bl (decide (w0 = first))] ++ (F.map Option.isSome).map .bl = (letsB first (Txt.split l0 " ") bs).map .bl := by
    unfold letsB
    rw [hF, hW]
    rfl
  rw [e2]
  have fA : Fx [] S2 (S2 ++ [Ob.lst [D.bl (decide (w0 = first))]] ++ [Ob.lst ((F.map Option.isSome).map .bl)] ++ [Ob.lst ((letsB first (Txt.split l0 " ") bs).map .bl)]) := ((Fx.app _ _).apps _).apps _
  refine (run_eq (s_wrong (n + 1) (fA.get gW (by simp)) app_at (by unfold letsB; rw [hF]; simp; omega))).mpr ?_
  rw [List.length_map]
  have eR : readW t first bs = match wrongW (Txt.split l0 " ").length (letsB first (Txt.split l0 " ") bs) with
      | some k => .tup [.str "WrongLine", .tup [.int 0, .int (k : Int)]]
      | none => if (l0 :: lr).length = 1 then .tup [.str "told", .tup (F.map optD)] else .tup [.str "WrongLine", .tup [.int 1, .int 0]] := by
    unfold readW
    simp only [if_pos h4, hL]
    rw [← hF]
    rfl
  rw [eR]
  have fZ := gX.trans fA
  have gF' := fA.get gF (by simp)
  have gL' := fA.get gL (by simp)
  generalize (S2 ++ [Ob.lst [D.bl (decide (w0 = first))]] ++ [Ob.lst ((F.map Option.isSome).map .bl)] ++ [Ob.lst ((letsB first (Txt.split l0 " ") bs).map .bl)]) = S3 at fZ gF' gL' ⊢
  cases wrongW (Txt.split l0 " ").length (letsB first (Txt.split l0 " ") bs) with
  | some k =>
    repeat fail
    exact ⟨rfl, fZ.kill (Nat.le_refl _)⟩
  | none =>
    repeat fail
    refine p_biop (len_loc (.inl gL')) ?_
    repeat fail
    · rename_i h
      refine p_biop (tuple_loc gF') ?_
      repeat fail
      refine ⟨?_, fZ.kill (Nat.le_refl _)⟩
      simp only
      rw [if_pos (by rw [hL, List.length_map] at h; omega)]
    · rename_i h
      repeat fail
      refine ⟨?_, fZ.kill (Nat.le_refl _)⟩
      simp only
      rw [if_neg (by rw [hL, List.length_map] at h; omega)]
end MI.P

set_option Elab.async false
set_option linter.all false
set_option maxRecDepth 100000
set_option maxHeartbeats 4000000
/-! PLAIN, part 9: keys, as the law reads them. -/
namespace MI.P
open PySem K82
open TL (tl)
local macro_rules | `(tactic| fail) => `(tactic| first
  | ((with_reducible refine e_var.mpr ?_); refine ⟨_, rfl, ?_⟩)
  | with_reducible refine e_c.mpr ?_
  | with_reducible refine e_gv.mpr ?_
  | with_reducible refine e_bin.mpr ?_
  | with_reducible refine e_cmp.mpr ?_
  | with_reducible refine e_chain.mpr ?_
  | with_reducible refine e_neg.mpr ?_
  | with_reducible refine e_not.mpr ?_
  | with_reducible refine e_and.mpr ?_
  | with_reducible refine e_or.mpr ?_
  | with_reducible refine e_ife.mpr ?_
  | with_reducible refine e_nil.mpr ?_
  | with_reducible refine e_cons.mpr ?_
  | with_reducible refine e_consT.mpr ?_
  | with_reducible refine e_consU.mpr ?_
  | with_reducible refine e_rep.mpr ?_
  | with_reducible refine e_tup.mpr ?_
  | with_reducible refine e_lst.mpr ?_
  | with_reducible refine e_idx.mpr ?_
  | with_reducible refine e_part.mpr ?_
  | with_reducible refine e_sl.mpr ?_
  | with_reducible refine e_attr.mpr ?_
  | with_reducible refine e_call.mpr ?_
  | with_reducible refine e_make.mpr ?_
  | with_reducible refine e_meth.mpr ?_
  | with_reducible refine e_bi.mpr ?_
  | with_reducible refine e_isi.mpr ?_
  | with_reducible refine e_yes.mpr ?_
  | with_reducible refine e_lc.mpr ?_
  | with_reducible refine runS_seq.mpr ?_
  | with_reducible refine t_skip.mpr ?_
  | with_reducible refine t_asg.mpr ?_
  | with_reducible refine t_setf.mpr ?_
  | with_reducible refine t_augf.mpr ?_
  | with_reducible refine t_seti.mpr ?_
  | with_reducible refine t_exp.mpr ?_
  | with_reducible refine t_ite.mpr ?_
  | with_reducible refine t_ret.mpr ?_
  | with_reducible refine t_retn.mpr ?_
  | with_reducible refine t_raise.mpr ?_
  | with_reducible refine t_for.mpr ?_
  | with_reducible refine k_nx ?_
  | with_reducible refine k_rt ?_
  | with_reducible refine k_xx ?_
  | with_reducible refine q_nx ?_
  | with_reducible refine q_rt ?_
  | with_reducible refine q_xx ?_
  | ((with_reducible refine g_isiD ?_); refine p_isiD rfl ?_)
  | ((with_reducible refine g_cmpop ?_); refine p_cmpop rfl ?_)
  | ((with_reducible refine g_binop ?_); refine p_binop rfl ?_)
  | ((with_reducible refine g_consD ?_); refine p_consD rfl ?_)
  | ((with_reducible refine g_biop ?_); refine p_biop rfl ?_)
  | ((with_reducible refine g_idxD ?_); refine p_idxD rfl ?_)
  | ((with_reducible refine g_sliD ?_); refine p_sliD rfl ?_)
  | ((with_reducible refine g_augop ?_); refine p_augop rfl ?_)
  | ((with_reducible refine g_setiD ?_); refine p_setiD rfl ?_)
  | ((with_reducible refine g_srcOf ?_); refine p_srcOf rfl ?_)
  | ((with_reducible refine g_repD ?_); refine p_repD rfl ?_)
  | with_reducible refine b_nm0 ?_
  | ((with_reducible refine b_nm ?h0 ?_); (case h0 => rfl))
  | ((with_reducible refine g_bindT ?_); refine p_bindT rfl ?_)
  | ((with_reducible refine g_itOf ?_); refine p_itOf rfl ?_)
  | ((with_reducible refine e_lam.mpr ?_); refine ⟨_, rfl, ?_⟩)
  | ((with_reducible refine t_aug.mpr ?_); refine ⟨_, rfl, ?_⟩)
  | ((with_reducible refine ex_tup ?h0 ?_); (case h0 => exact Nat.le_of_ble_eq_true rfl))
  | with_reducible refine br_t ?_
  | with_reducible refine br_f ?_
  | with_reducible refine br_nd (fun h => ?_) (fun h => ?_)
  | with_reducible refine br_d (fun h => ?_) (fun h => ?_)
  | ((with_reducible refine br_g ?_); refine br_t ?_)
  | ((with_reducible refine br_g ?_); refine br_f ?_)
  | with_reducible refine br_n (fun h => ?_) (fun h => ?_)
  | with_reducible refine br_b (fun h => ?_) (fun h => ?_)
  | with_reducible refine ⟨_, rfl, ?_⟩)
theorem mul_loc {l k : Nat} {xs : List D} {st : Store} (h : st[l]? = some (.lst xs)) (hk : k ≤ 1000) (hx : xs.length ≤ 100) : binop .mul (.loc l) (.int (k : Int)) st = .ok (.loc st.length) (st ++ [.lst (List.replicate k xs).flatten]) := by
  have hz := sizeL
  have hm : xs.length * k ≤ 100 * 1000 := Nat.mul_le_mul hx hk
  have e : (decide (-(2 ^ 63) ≤ (k : Int)) && decide ((k : Int) < 2 ^ 63) && decide (xs.length * (k : Int).toNat ≤ sizeLine)) = true := by
    simp
    omega
  unfold binop
  simp only [h, e]
  rfl
theorem idx_tup {ds : List D} {i : Int} {d : D} {st : Store} (e : L2.atI ds i = some d) : idxD (.tup ds) (.int i) st = .ok d st := by
  show bnd (seqOf (.tup ds)) (fun ds => ofO (L2.atI ds i)) st = _
  show ofO (L2.atI ds i) st = _
  rw [e]
  rfl
theorem cut_from1 {α : Type} {x : α} {xs : List α} : cutL (x :: xs) (some 1) none = xs := by
  unfold cutL
  have e1 : HT.sIx (x :: xs).length 0 (some 1) = 1 := by
    unfold HT.sIx
    simp
  have e2 : HT.sIx (x :: xs).length (x :: xs).length none = xs.length + 1 := rfl
  rw [e1, e2]
  simp
theorem pow6 {st : Store} : binop .pow (.int 10) (.int 6) st = .ok (.int 1000000) st := rfl
theorem pow12 {st : Store} : binop .pow (.int 10) (.int 12) st = .ok (.int 1000000000000) st := rfl
/-- the bounds of keys of k wishes -/
def kb (k : Nat) : List (Int × Int) := (1, 1000000) :: List.replicate k (0, 1000000000000)
/-- the sorts of answer -/
inductive RKR where
  | told (s : Int) (ss : List Int)
  | wrong (a b : Nat)
  | many (n : Nat)
def RKR.d : RKR → D
  | .told s ss => .tup [.str "told", .tup [.int s, .tup (ss.map .int)]]
  | .wrong a b => .tup [.str "WrongLine", .tup [.int (a : Int), .int (b : Int)]]
  | .many n => .tup [.str "TooMany", .int (n : Int)]
def firstW (t : Str) : List Str := Txt.split ((Txt.split t "\n").getD 0 "") " "
def RK (k : Nat) (t : Str) : RKR :=
  if t.length ≤ 400000 then match wrongW (firstW t).length (letsB "keys" (firstW t) (kb k)) with
    | some b => .wrong 0 b
    | none => if (Txt.split t "\n").length = 1 then .told (((foundO (firstW t) (kb k)).getD 0 none).getD 0) (((foundO (firstW t) (kb k)).drop 1).map fun o => o.getD 0) else .wrong 1 0
  else .many t.length
theorem firstB_none {k : Nat} : ∀ {bs : List Bool} {i : Nat}, firstB k i bs = none → ∀ b ∈ bs, b = true
  | [], _, _, b, h => by cases h
  | a :: r, i, e, b, h => by
    unfold firstB at e
    split at e
    · cases e
    · rename_i c
      rcases List.mem_cons.mp h with rfl | h
      · cases b
        · exact absurd (.inr rfl) c
        · rfl
      · exact firstB_none e b h
theorem s_lawkeys (n k : Nat) {t : Str} {st : Store} (hk : k ≤ 41) (ht : t.length ≤ 1000000) (hc : cOk t) : Run ((calls G (n + 4)).1 26 [.int (k : Int), .str t]) st (fun d s => d = (RK k t).d ∧ Fx [] st s) fun _ _ => False := by
  have hz := sizeL
  refine rd_def [some (.int (k : Int)), some (.str t), none] rfl rfl rfl rfl rfl ?_
  unfold c26
  repeat fail
  refine p_binop (mul_loc app_at (by omega) (by simp)) ?_
  refine p_binop (add_loc (xs := [.tup [.int 1, .int 1000000]]) (ys := (List.replicate k [.tup [.int 0, .int 1000000000000]]).flatten) ?_ ?_ ?_) ?_
  · rw [List.getElem?_append_left (by simp), List.getElem?_append_left (by simp)]
    exact app_at
  · exact app_at
  · simp <;> omega
  have eb : [D.tup [.int 1, .int 1000000]] ++ (List.replicate k [D.tup [.int 0, .int 1000000000000]]).flatten = bndD (kb k) := by
    unfold bndD kb
    simp
  rw [eb]
  repeat fail
  refine (s_readwords n ht hc app_at (by simp [kb]; omega)).to fun d s h => ?_
  obtain ⟨rfl, fs⟩ := h
  have fZ : Fx [] st s := (((Fx.app st _).apps _).apps _ |>.apps _).trans fs
  have el : ∀ a b : Int, L2.atI [D.int a, D.int b] 1 = some (.int b) := fun a b => rfl
  unfold readW RK firstW
  by_cases h4 : t.length ≤ 400000
  rotate_left
  · simp only [if_neg h4]
    repeat fail
    · rename_i h
      exact absurd h (by decide +kernel)
    · repeat fail
      exact ⟨rfl, fZ⟩
  simp only [if_pos h4]
  cases hw : wrongW (Txt.split ((Txt.split t "\n").getD 0 "") " ").length (letsB "keys" (Txt.split ((Txt.split t "\n").getD 0 "") " ") (kb k)) with
  | some b =>
    repeat fail
    · rename_i h
      exact absurd h (by decide +kernel)
    · repeat fail
      exact ⟨rfl, fZ⟩
  | none =>
    by_cases hL : (Txt.split t "\n").length = 1
    rotate_left
    · simp only [if_neg hL]
      repeat fail
      · rename_i h
        exact absurd h (by decide +kernel)
      · repeat fail
        exact ⟨rfl, fZ⟩
    simp only [if_pos hL]
    have hb : ∀ b ∈ letsB "keys" (Txt.split ((Txt.split t "\n").getD 0 "") " ") (kb k), b = true := by
      unfold wrongW at hw
      cases q : firstB (Txt.split ((Txt.split t "\n").getD 0 "") " ").length 0 (letsB "keys" (Txt.split ((Txt.split t "\n").getD 0 "") " ") (kb k)) with
      | some i => rw [q] at hw; cases hw
      | none => exact firstB_none q
    unfold letsB at hb
    generalize hF : foundO (Txt.split ((Txt.split t "\n").getD 0 "") " ") (kb k) = F at hb ⊢
    have lF : F.length = k + 1 := by rw [← hF, found_len]; simp [kb]
    cases F with
    | nil => cases lF
    | cons o os =>
      have ho : ∀ x ∈ o :: os, ∃ v, x = some v := fun x hx => by
        have := hb x.isSome (List.mem_cons_of_mem _ (List.mem_map.mpr ⟨x, hx, rfl⟩))
        exact Option.isSome_iff_exists.mp this
      obtain ⟨v, rfl⟩ := ho o List.mem_cons_self
      repeat fail
      rotate_left
      · rename_i h
        exact absurd rfl h
      refine p_idxD (idx_tup at0) ?_
      repeat fail
      refine ⟨?_, fZ⟩
      rw [List.map_cons, cut_from1]
      show _ = D.tup [.str "told", .tup [.int v, .tup ((os.map fun o => o.getD 0).map .int)]]
      have : os.map optD = (os.map fun o => o.getD 0).map .int := by
        rw [List.map_map]
        refine List.map_congr_left fun x hx => ?_
        obtain ⟨u, rfl⟩ := ho x (List.mem_cons_of_mem _ hx)
        rfl
      rw [this]
      rfl
end MI.P

set_option Elab.async false
set_option linter.all false
set_option maxRecDepth 100000
set_option maxHeartbeats 4000000
/-! PLAIN, part 10: the program's reader of lines. -/
namespace MI.P
open PySem K82
open TL (tl)
local macro_rules | `(tactic| fail) => `(tactic| first
  | ((with_reducible refine e_var.mpr ?_); refine ⟨_, rfl, ?_⟩)
  | with_reducible refine e_c.mpr ?_
  | with_reducible refine e_gv.mpr ?_
  | with_reducible refine e_bin.mpr ?_
  | with_reducible refine e_cmp.mpr ?_
  | with_reducible refine e_chain.mpr ?_
  | with_reducible refine e_neg.mpr ?_
  | with_reducible refine e_not.mpr ?_
  | with_reducible refine e_and.mpr ?_
  | with_reducible refine e_or.mpr ?_
  | with_reducible refine e_ife.mpr ?_
  | with_reducible refine e_nil.mpr ?_
  | with_reducible refine e_cons.mpr ?_
  | with_reducible refine e_consT.mpr ?_
  | with_reducible refine e_consU.mpr ?_
  | with_reducible refine e_rep.mpr ?_
  | with_reducible refine e_tup.mpr ?_
  | with_reducible refine e_lst.mpr ?_
  | with_reducible refine e_idx.mpr ?_
  | with_reducible refine e_part.mpr ?_
  | with_reducible refine e_sl.mpr ?_
  | with_reducible refine e_attr.mpr ?_
  | with_reducible refine e_call.mpr ?_
  | with_reducible refine e_make.mpr ?_
  | with_reducible refine e_meth.mpr ?_
  | with_reducible refine e_bi.mpr ?_
  | with_reducible refine e_isi.mpr ?_
  | with_reducible refine e_yes.mpr ?_
  | with_reducible refine e_lc.mpr ?_
  | with_reducible refine runS_seq.mpr ?_
  | with_reducible refine t_skip.mpr ?_
  | with_reducible refine t_asg.mpr ?_
  | with_reducible refine t_setf.mpr ?_
  | with_reducible refine t_augf.mpr ?_
  | with_reducible refine t_seti.mpr ?_
  | with_reducible refine t_exp.mpr ?_
  | with_reducible refine t_ite.mpr ?_
  | with_reducible refine t_ret.mpr ?_
  | with_reducible refine t_retn.mpr ?_
  | with_reducible refine t_raise.mpr ?_
  | with_reducible refine t_for.mpr ?_
  | with_reducible refine k_nx ?_
  | with_reducible refine k_rt ?_
  | with_reducible refine k_xx ?_
  | with_reducible refine q_nx ?_
  | with_reducible refine q_rt ?_
  | with_reducible refine q_xx ?_
  | ((with_reducible refine g_isiD ?_); refine p_isiD rfl ?_)
  | ((with_reducible refine g_cmpop ?_); refine p_cmpop rfl ?_)
  | ((with_reducible refine g_binop ?_); refine p_binop rfl ?_)
  | ((with_reducible refine g_consD ?_); refine p_consD rfl ?_)
  | ((with_reducible refine g_biop ?_); refine p_biop rfl ?_)
  | ((with_reducible refine g_idxD ?_); refine p_idxD rfl ?_)
  | ((with_reducible refine g_sliD ?_); refine p_sliD rfl ?_)
  | ((with_reducible refine g_augop ?_); refine p_augop rfl ?_)
  | ((with_reducible refine g_setiD ?_); refine p_setiD rfl ?_)
  | ((with_reducible refine g_srcOf ?_); refine p_srcOf rfl ?_)
  | ((with_reducible refine g_repD ?_); refine p_repD rfl ?_)
  | with_reducible refine b_nm0 ?_
  | ((with_reducible refine b_nm ?h0 ?_); (case h0 => rfl))
  | ((with_reducible refine g_bindT ?_); refine p_bindT rfl ?_)
  | ((with_reducible refine g_itOf ?_); refine p_itOf rfl ?_)
  | ((with_reducible refine e_lam.mpr ?_); refine ⟨_, rfl, ?_⟩)
  | ((with_reducible refine t_aug.mpr ?_); refine ⟨_, rfl, ?_⟩)
  | ((with_reducible refine ex_tup ?h0 ?_); (case h0 => exact Nat.le_of_ble_eq_true rfl))
  | with_reducible refine br_t ?_
  | with_reducible refine br_f ?_
  | with_reducible refine br_nd (fun h => ?_) (fun h => ?_)
  | with_reducible refine br_d (fun h => ?_) (fun h => ?_)
  | ((with_reducible refine br_g ?_); refine br_t ?_)
  | ((with_reducible refine br_g ?_); refine br_f ?_)
  | with_reducible refine br_n (fun h => ?_) (fun h => ?_)
  | with_reducible refine br_b (fun h => ?_) (fun h => ?_)
  | with_reducible refine ⟨_, rfl, ?_⟩)
theorem attr_g {G : GP} {l c : Nat} {fs : List (Str × D)} {f : Str} {d : D} {st : Store} (h : st[l]? = some (.ins c fs)) (hf : fldOk G c f = true) (e : fs.lookup f = some d) : attrD G (.loc l) f st = .ok d st := by
  unfold attrD
  simp only [h, hf, if_true, e]
theorem setf_g {G : GP} {l c : Nat} {fs gs : List (Str × D)} {f : Str} {d : D} {st : Store} (h : st[l]? = some (.ins c fs)) (hf : fldOk G c f = true) (hl : fs.length < 1000) (e : setF fs f d = gs) : setfD G (.loc l) f d st = .ok () (st.set l (.ins c gs)) := by
  unfold setfD
  simp only [h]
  rw [if_pos ⟨hl, hf⟩, e]
/-- a line and its place -/
def lnF (kw : Nat) (pl i : Int) : List (Str × D) := [("words", .loc kw), ("place", .int pl), ("at", .int i)]
def lsF (kl : Nat) (i : Int) : List (Str × D) := [("lines", .loc kl), ("at", .int i)]
theorem n_aw : (("at" : Str) == "words") = false := by decide +kernel
theorem n_ap : (("at" : Str) == "place") = false := by decide +kernel
theorem n_al : (("at" : Str) == "lines") = false := by decide +kernel
theorem n_pw : (("place" : Str) == "words") = false := by decide +kernel
theorem lk_w {kw : Nat} {pl i : Int} : List.lookup ("words" : Str) (lnF kw pl i) = some (D.loc kw) := by
  unfold lnF
  rw [List.lookup_cons]
  simp
theorem lk_p {kw : Nat} {pl i : Int} : List.lookup ("place" : Str) (lnF kw pl i) = some (D.int pl) := by
  unfold lnF
  rw [List.lookup_cons, List.lookup_cons, n_pw]
  simp
theorem lk_a {kw : Nat} {pl i : Int} : List.lookup ("at" : Str) (lnF kw pl i) = some (D.int i) := by
  unfold lnF
  rw [List.lookup_cons, List.lookup_cons, List.lookup_cons, n_aw, n_ap]
  simp
theorem lk_l {kl : Nat} {i : Int} : List.lookup ("lines" : Str) (lsF kl i) = some (D.loc kl) := by
  unfold lsF
  rw [List.lookup_cons]
  simp
theorem lk_la {kl : Nat} {i : Int} : List.lookup ("at" : Str) (lsF kl i) = some (D.int i) := by
  unfold lsF
  rw [List.lookup_cons, List.lookup_cons, n_al]
  simp
theorem d_aw : ¬ ("words" : Str) = "at" := by decide +kernel
theorem d_ap : ¬ ("place" : Str) = "at" := by decide +kernel
theorem d_al : ¬ ("lines" : Str) = "at" := by decide +kernel
theorem d_wp : ¬ ("words" : Str) = "place" := by decide +kernel
theorem sf_a {kw : Nat} {pl i j : Int} : setF (lnF kw pl i) "at" (.int j) = lnF kw pl j := by
  unfold lnF
  simp only [setF, if_neg d_aw, if_neg d_ap, if_true]
theorem sf_la {kl : Nat} {i j : Int} : setF (lsF kl i) "at" (.int j) = lsF kl j := by
  unfold lsF
  simp only [setF, if_neg d_al, if_true]
theorem f_w : fldOk G 0 "words" = true := by decide +kernel
theorem f_p : fldOk G 0 "place" = true := by decide +kernel
theorem f_a : fldOk G 0 "at" = true := by decide +kernel
theorem f_l : fldOk G 1 "lines" = true := by decide +kernel
theorem f_la : fldOk G 1 "at" = true := by decide +kernel
theorem ok_ins {l c f : Nat} {fs : List (Str × D)} {C : Cl} {m : Str} {st : Store} (h : st[l]? = some (.ins c fs)) (hC : G.cls[c]? = some C) (h1 : fs.lookup m = none) (h2 : C.meths.lookup m = some f) : methOk G (.loc l) m st = .ok () st := by
  unfold methOk
  simp only [h, hC, h1, h2]
  rfl
theorem m_ins {cf : Nat → List D → M D} {l c f : Nat} {fs : List (Str × D)} {C : Cl} {m : Str} {as : List D} {st : Store} {Q : D → Store → Prop} {E : Ex → Store → Prop} (h : st[l]? = some (.ins c fs)) (hC : G.cls[c]? = some C) (h2 : C.meths.lookup m = some f) (k : Run (cf f (.loc l :: as)) st Q E) : Run (methD G cf (.loc l) m as) st Q E := by
  have e : methD G cf (.loc l) m as st = cf f (.loc l :: as) st := by
    unfold methD
    simp only [h, hC, h2]
  unfold Run at *
  rw [e]
  exact k
theorem mk_0 {cf : Nat → List D → M D} {as : List D} {st : Store} {Q : D → Store → Prop} {E : Ex → Store → Prop} (k : Run (cf 38 (.loc st.length :: as)) (st ++ [.ins 0 []]) (fun r s => r = .non ∧ Q (.loc st.length) s) E) : Run (makeD G cf 0 as) st Q E := by
  show Run (bnd (alloc (.ins 0 [])) fun d => bnd (cf 38 (d :: as)) fun r => match r with
    | .non => ret d
    | _ => no) st Q E
  rw [run_bnd]
  show Run (bnd (cf 38 (.loc st.length :: as)) _) (st ++ [.ins 0 []]) Q E
  rw [run_bnd]
  refine k.imp (fun r s h => ?_) fun _ _ z => z
  obtain ⟨rfl, h⟩ := h
  exact h
theorem mk_1 {cf : Nat → List D → M D} {as : List D} {st : Store} {Q : D → Store → Prop} {E : Ex → Store → Prop} (k : Run (cf 44 (.loc st.length :: as)) (st ++ [.ins 1 []]) (fun r s => r = .non ∧ Q (.loc st.length) s) E) : Run (makeD G cf 1 as) st Q E := by
  show Run (bnd (alloc (.ins 1 [])) fun d => bnd (cf 44 (d :: as)) fun r => match r with
    | .non => ret d
    | _ => no) st Q E
  rw [run_bnd]
  show Run (bnd (cf 44 (.loc st.length :: as)) _) (st ++ [.ins 1 []]) Q E
  rw [run_bnd]
  refine k.imp (fun r s h => ?_) fun _ _ z => z
  obtain ⟨rfl, h⟩ := h
  exact h
/-! ### the line -/
theorem s_refuse (n : Nat) {q kw : Nat} {pl i j : Int} {st : Store} {Q : D → Store → Prop} {E : Ex → Store → Prop} (h : st[q]? = some (.ins 0 (lnF kw pl i))) (k : E ⟨4, .tup [.int pl, .int j]⟩ st) : Run ((calls G (n + 1)).1 39 [.loc q, .int j]) st Q E := by
  refine rd_def [some (.loc q), some (.int j)] rfl rfl rfl rfl rfl ?_
  unfold c39
  repeat fail
  refine p_attrD (attr_g h f_p lk_p) ?_
  repeat fail
  exact k
theorem w_ref {cf : Nat → List D → M D} (n : Nat) {q kw : Nat} {pl i : Int} {st : Store} (h : st[q]? = some (.ins 0 (lnF kw pl i))) : methOk G (.loc q) "refuse" st = .ok () st := ok_ins (f := 39) h rfl (by unfold lnF; rw [List.lookup_cons, List.lookup_cons, List.lookup_cons, show (("refuse" : Str) == "words") = false by decide +kernel, show (("refuse" : Str) == "place") = false by decide +kernel, show (("refuse" : Str) == "at") = false by decide +kernel]; rfl) (by decide +kernel)
theorem Fx.set' {S : List Nat} {a b : Store} (h : Fx S a b) {l : Nat} {o : Ob} (hl : l ∈ S) : Fx S a (b.set l o) := h.trans (Fx.set hl)
theorem set_at {st : Store} {l : Nat} {o p : Ob} (h : st[l]? = some p) : (st.set l o)[l]? = some o := by
  rw [List.getElem?_set_self (List.getElem?_eq_some_iff.mp h).1]
theorem set_out {st : Store} {l k : Nat} {o p x : Ob} (h : st[k]? = some p) (hl : st[l]? = some x) (hn : p ≠ x) : (st.set l o)[k]? = some p := by
  rw [List.getElem?_set_ne (by rintro rfl; rw [h] at hl; exact hn (Option.some.inj hl)), h]
theorem s_word (n : Nat) {q kw i : Nat} {pl : Int} {W : List Str} {st : Store} {Q : D → Store → Prop} {E : Ex → Store → Prop} (h : st[q]? = some (.ins 0 (lnF kw pl (i : Int)))) (hW : st[kw]? = some (.lst (W.map .str))) (hi : i ≤ W.length)
    (k1 : ∀ w, W[i]? = some w → Q (.str w) (st.set q (.ins 0 (lnF kw pl ((i + 1 : Nat) : Int))))) (k2 : i = W.length → E ⟨4, .tup [.int pl, .int (i : Int)]⟩ st) : Run ((calls G (n + 2)).1 40 [.loc q]) st Q E := by
  refine rd_def [some (.loc q)] rfl rfl rfl rfl rfl ?_
  unfold c40
  repeat fail
  refine p_attrD (attr_g h f_a lk_a) ?_
  repeat fail
  refine p_attrD (attr_g h f_w lk_w) ?_
  repeat fail
  refine p_biop (len_loc (.inl hW)) ?_
  repeat fail
  · rename_i c
    have c : i = W.length := by rw [List.length_map] at c; omega
    refine p_methOk (w_ref (cf := (calls G (n + 1)).1) 0 h) ?_
    repeat fail
    refine p_attrD (attr_g h f_a lk_a) ?_
    repeat fail
    refine m_ins (f := 39) h rfl (by decide +kernel) ?_
    exact s_refuse n h (k2 c)
  · rename_i c
    have c : i < W.length := by rw [List.length_map] at c; omega
    repeat fail
    refine p_attrD (attr_g h f_a lk_a) ?_
    repeat fail
    refine p_setfD (setf_g h f_a (show 3 < 1000 by decide) sf_a) ?_
    repeat fail
    have h' := set_at (o := .ins 0 (lnF kw pl ((i : Int) + 1))) h
    have hW' := set_out (o := .ins 0 (lnF kw pl ((i : Int) + 1))) hW h (by intro z; cases z)
    refine p_attrD (attr_g h' f_w lk_w) ?_
    repeat fail
    refine p_attrD (attr_g h' f_a lk_a) ?_
    repeat fail
    have e1 : (i : Int) + 1 - 1 = (i : Int) := by omega
    rw [e1]
    have hw : W[i]? = some W[i] := List.getElem?_eq_getElem c
    refine p_idxD (idx_loc (.inl hW') (atN (x := .str W[i]) (by rw [List.getElem?_map, hw]; rfl))) ?_
    repeat fail
    have := k1 _ hw
    rw [show (((i + 1 : Nat)) : Int) = (i : Int) + 1 from rfl] at this
    exact this
theorem w_word {q kw : Nat} {pl i : Int} {st : Store} (h : st[q]? = some (.ins 0 (lnF kw pl i))) : methOk G (.loc q) "word" st = .ok () st := ok_ins (f := 40) h rfl (by unfold lnF; rw [List.lookup_cons, List.lookup_cons, List.lookup_cons, show (("word" : Str) == "words") = false by decide +kernel, show (("word" : Str) == "place") = false by decide +kernel, show (("word" : Str) == "at") = false by decide +kernel]; rfl) (by decide +kernel)
theorem s_number42 (n : Nat) {q kw i : Nat} {pl lo hi : Int} {W : List Str} {st : Store} {Q : D → Store → Prop} {E : Ex → Store → Prop} (h : st[q]? = some (.ins 0 (lnF kw pl (i : Int)))) (hW : st[kw]? = some (.lst (W.map .str))) (hi' : i ≤ W.length) (hw : ∀ w ∈ W, w.length ≤ sizeLine)
    (k1 : ∀ v s, i < W.length → inO (W.getD i "") lo hi = some v → Fx [q] st s → s[q]? = some (.ins 0 (lnF kw pl ((i + 1 : Nat) : Int))) → Q (.int v) s)
    (k2 : ∀ s, i = W.length ∨ inO (W.getD i "") lo hi = none → Fx [q] st s → E ⟨4, .tup [.int pl, .int (i : Int)]⟩ s) : Run ((calls G (n + 3)).1 42 [.loc q, .int lo, .int hi]) st Q E := by
  refine rd_def [some (.loc q), some (.int lo), some (.int hi), none] rfl rfl rfl rfl rfl ?_
  unfold c42
  repeat fail
  refine p_methOk (w_word h) ?_
  repeat fail
  refine m_ins (f := 40) h rfl (by decide +kernel) ?_
  refine s_word n h hW hi' (fun w hwi => ?_) (fun e => ?_)
  rotate_left
  · repeat fail
    exact k2 _ (.inl e) (Fx.refl _)
  have hlt : i < W.length := (List.getElem?_eq_some_iff.mp hwi).1
  have hg : W.getD i "" = w := by rw [List.getD_eq_getElem?_getD, hwi]; rfl
  rw [hg] at k1 k2
  have h' := set_at (o := .ins 0 (lnF kw pl ((i + 1 : Nat) : Int))) h
  have f0 : Fx [q] st (st.set q (.ins 0 (lnF kw pl ((i + 1 : Nat) : Int)))) := Fx.set (by simp)
  generalize (st.set q (.ins 0 (lnF kw pl ((i + 1 : Nat) : Int)))) = S at h' f0 ⊢
  repeat fail
  refine (s_number (n + 1) (hw w (List.mem_of_getElem? hwi))).to fun d s hd => ?_
  obtain ⟨rfl, fs⟩ := hd
  have h2 := fs.get h' (by simp)
  have f2 := f0.trans fs.none
  have e1 : ((i + 1 : Nat) : Int) - 1 = (i : Int) := by omega
  unfold inO at k1 k2
  cases e : numO w with
  | none =>
    rw [e] at k1 k2
    repeat fail
    refine p_methOk (w_ref (cf := (calls G (n + 1)).1) 0 h2) ?_
    repeat fail
    refine p_attrD (attr_g h2 f_a lk_a) ?_
    repeat fail
    rw [e1]
    refine m_ins (f := 39) h2 rfl (by decide +kernel) ?_
    refine s_refuse (n + 1) h2 ?_
    repeat fail
    exact k2 _ (.inr rfl) f2
  | some v =>
    rw [e] at k1 k2
    repeat fail
    · rename_i c2 c1
      repeat fail
      refine p_methOk (w_ref (cf := (calls G (n + 1)).1) 0 h2) ?_
      repeat fail
      refine p_attrD (attr_g h2 f_a lk_a) ?_
      repeat fail
      rw [e1]
      refine m_ins (f := 39) h2 rfl (by decide +kernel) ?_
      refine s_refuse (n + 1) h2 ?_
      repeat fail
      exact k2 _ (.inr (by simp [Option.filter]; omega)) f2
    · rename_i c2 c1
      repeat fail
      exact k1 v s hlt (by simp [Option.filter, c1, c2]) f2 h2
    · rename_i c1
      repeat fail
      refine p_methOk (w_ref (cf := (calls G (n + 1)).1) 0 h2) ?_
      repeat fail
      refine p_attrD (attr_g h2 f_a lk_a) ?_
      repeat fail
      rw [e1]
      refine m_ins (f := 39) h2 rfl (by decide +kernel) ?_
      refine s_refuse (n + 1) h2 ?_
      repeat fail
      exact k2 _ (.inr (by simp [Option.filter]; omega)) f2
theorem s_oneof (n : Nat) {q kw i : Nat} {pl : Int} {W : List Str} {st : Store} {Q : D → Store → Prop} {E : Ex → Store → Prop} (h : st[q]? = some (.ins 0 (lnF kw pl (i : Int)))) (hW : st[kw]? = some (.lst (W.map .str))) (hi : i < W.length)
    (k1 : ∀ s, W.getD i "" = "keys" → Fx [q] st s → s[q]? = some (.ins 0 (lnF kw pl ((i + 1 : Nat) : Int))) → ∀ d, Q d s)
    (k2 : ∀ s, W.getD i "" ≠ "keys" → Fx [q] st s → E ⟨4, .tup [.int pl, .int (i : Int)]⟩ s) : Run ((calls G (n + 3)).1 41 [.loc q, .tup [.str "keys"]]) st Q E := by
  refine rd_def [some (.loc q), some (.tup [.str "keys"]), none] rfl rfl rfl rfl rfl ?_
  unfold c41
  repeat fail
  refine p_methOk (w_word h) ?_
  repeat fail
  refine m_ins (f := 40) h rfl (by decide +kernel) ?_
  refine s_word n h hW (by omega) (fun w hwi => ?_) (fun e => absurd e (by omega))
  have hg : W.getD i "" = w := by rw [List.getD_eq_getElem?_getD, hwi]; rfl
  rw [hg] at k1 k2
  have h' := set_at (o := .ins 0 (lnF kw pl ((i + 1 : Nat) : Int))) h
  have f0 : Fx [q] st (st.set q (.ins 0 (lnF kw pl ((i + 1 : Nat) : Int)))) := Fx.set (by simp)
  generalize (st.set q (.ins 0 (lnF kw pl ((i + 1 : Nat) : Int)))) = S at h' f0 ⊢
  have e1 : ((i + 1 : Nat) : Int) - 1 = (i : Int) := by omega
  repeat fail
  · rename_i c
    have c : w ≠ "keys" := fun z => by
      have c : ((("keys" : Str) == w) || false) = false := c
      rw [z] at c
      simp at c
    refine p_methOk (w_ref (cf := (calls G (n + 1)).1) 0 h') ?_
    repeat fail
    refine p_attrD (attr_g h' f_a lk_a) ?_
    repeat fail
    rw [e1]
    refine m_ins (f := 39) h' rfl (by decide +kernel) ?_
    refine s_refuse (n + 1) h' ?_
    repeat fail
    exact k2 _ c f0
  · rename_i c
    have c : w = "keys" := by
      have c : ((("keys" : Str) == w) || false) = true := c
      rw [Bool.or_false, beq_iff_eq] at c
      exact c.symm
    repeat fail
    exact k1 _ c f0 h' _
theorem s_lend (n : Nat) {q kw i : Nat} {pl : Int} {W : List Str} {st : Store} {Q : D → Store → Prop} {E : Ex → Store → Prop} (h : st[q]? = some (.ins 0 (lnF kw pl (i : Int)))) (hW : st[kw]? = some (.lst (W.map .str)))
    (k1 : W.length ≤ i → Q .non st)
    (k2 : i < W.length → E ⟨4, .tup [.int pl, .int (i : Int)]⟩ st) : Run ((calls G (n + 2)).1 43 [.loc q]) st Q E := by
  refine rd_def [some (.loc q)] rfl rfl rfl rfl rfl ?_
  unfold c43
  repeat fail
  refine p_attrD (attr_g h f_a lk_a) ?_
  repeat fail
  refine p_attrD (attr_g h f_w lk_w) ?_
  repeat fail
  refine p_biop (len_loc (.inl hW)) ?_
  repeat fail
  · rename_i c
    rw [List.length_map] at c
    refine p_methOk (w_ref (cf := (calls G (n + 1)).1) 0 h) ?_
    repeat fail
    refine p_attrD (attr_g h f_a lk_a) ?_
    repeat fail
    refine m_ins (f := 39) h rfl (by decide +kernel) ?_
    refine s_refuse n h ?_
    repeat fail
    exact k2 (by omega)
  · rename_i c
    rw [List.length_map] at c
    repeat fail
    exact k1 (by omega)
end MI.P

set_option Elab.async false
set_option linter.all false
set_option maxRecDepth 100000
set_option maxHeartbeats 4000000
/-! PLAIN, part 11: the program's read_keys. -/
namespace MI.P
open PySem K82
open TL (tl)
local macro_rules | `(tactic| fail) => `(tactic| first
  | ((with_reducible refine e_var.mpr ?_); refine ⟨_, rfl, ?_⟩)
  | with_reducible refine e_c.mpr ?_
  | with_reducible refine e_gv.mpr ?_
  | with_reducible refine e_bin.mpr ?_
  | with_reducible refine e_cmp.mpr ?_
  | with_reducible refine e_chain.mpr ?_
  | with_reducible refine e_neg.mpr ?_
  | with_reducible refine e_not.mpr ?_
  | with_reducible refine e_and.mpr ?_
  | with_reducible refine e_or.mpr ?_
  | with_reducible refine e_ife.mpr ?_
  | with_reducible refine e_nil.mpr ?_
  | with_reducible refine e_cons.mpr ?_
  | with_reducible refine e_consT.mpr ?_
  | with_reducible refine e_consU.mpr ?_
  | with_reducible refine e_rep.mpr ?_
  | with_reducible refine e_tup.mpr ?_
  | with_reducible refine e_lst.mpr ?_
  | with_reducible refine e_idx.mpr ?_
  | with_reducible refine e_part.mpr ?_
  | with_reducible refine e_sl.mpr ?_
  | with_reducible refine e_attr.mpr ?_
  | with_reducible refine e_call.mpr ?_
  | with_reducible refine e_make.mpr ?_
  | with_reducible refine e_meth.mpr ?_
  | with_reducible refine e_bi.mpr ?_
  | with_reducible refine e_isi.mpr ?_
  | with_reducible refine e_yes.mpr ?_
  | with_reducible refine e_lc.mpr ?_
  | with_reducible refine runS_seq.mpr ?_
  | with_reducible refine t_skip.mpr ?_
  | with_reducible refine t_asg.mpr ?_
  | with_reducible refine t_setf.mpr ?_
  | with_reducible refine t_augf.mpr ?_
  | with_reducible refine t_seti.mpr ?_
  | with_reducible refine t_exp.mpr ?_
  | with_reducible refine t_ite.mpr ?_
  | with_reducible refine t_ret.mpr ?_
  | with_reducible refine t_retn.mpr ?_
  | with_reducible refine t_raise.mpr ?_
  | with_reducible refine t_for.mpr ?_
  | with_reducible refine k_nx ?_
  | with_reducible refine k_rt ?_
  | with_reducible refine k_xx ?_
  | with_reducible refine q_nx ?_
  | with_reducible refine q_rt ?_
  | with_reducible refine q_xx ?_
  | ((with_reducible refine g_isiD ?_); refine p_isiD rfl ?_)
  | ((with_reducible refine g_cmpop ?_); refine p_cmpop rfl ?_)
  | ((with_reducible refine g_binop ?_); refine p_binop rfl ?_)
  | ((with_reducible refine g_consD ?_); refine p_consD rfl ?_)
  | ((with_reducible refine g_biop ?_); refine p_biop rfl ?_)
  | ((with_reducible refine g_idxD ?_); refine p_idxD rfl ?_)
  | ((with_reducible refine g_sliD ?_); refine p_sliD rfl ?_)
  | ((with_reducible refine g_augop ?_); refine p_augop rfl ?_)
  | ((with_reducible refine g_setiD ?_); refine p_setiD rfl ?_)
  | ((with_reducible refine g_srcOf ?_); refine p_srcOf rfl ?_)
  | ((with_reducible refine g_repD ?_); refine p_repD rfl ?_)
  | with_reducible refine b_nm0 ?_
  | ((with_reducible refine b_nm ?h0 ?_); (case h0 => rfl))
  | ((with_reducible refine g_bindT ?_); refine p_bindT rfl ?_)
  | ((with_reducible refine g_itOf ?_); refine p_itOf rfl ?_)
  | ((with_reducible refine e_lam.mpr ?_); refine ⟨_, rfl, ?_⟩)
  | ((with_reducible refine t_aug.mpr ?_); refine ⟨_, rfl, ?_⟩)
  | ((with_reducible refine ex_tup ?h0 ?_); (case h0 => exact Nat.le_of_ble_eq_true rfl))
  | with_reducible refine br_t ?_
  | with_reducible refine br_f ?_
  | with_reducible refine br_nd (fun h => ?_) (fun h => ?_)
  | with_reducible refine br_d (fun h => ?_) (fun h => ?_)
  | ((with_reducible refine br_g ?_); refine br_t ?_)
  | ((with_reducible refine br_g ?_); refine br_f ?_)
  | with_reducible refine br_n (fun h => ?_) (fun h => ?_)
  | with_reducible refine br_b (fun h => ?_) (fun h => ?_)
  | with_reducible refine ⟨_, rfl, ?_⟩)
theorem s_linesof (n : Nat) {t : Str} {st : Store} {Q : D → Store → Prop} {E : Ex → Store → Prop} (ht : t.length ≤ 1000000) (k1 : t.length ≤ 400000 → Q (.loc st.length) (st ++ [.lst ((Txt.split t "\n").map .str)])) (k2 : ¬ t.length ≤ 400000 → E ⟨1, .int t.length⟩ st) : Run ((calls G (n + 1)).1 2 [.str t]) st Q E := by
  have hz := sizeL
  refine rd_def [some (.str t)] rfl rfl rfl rfl rfl ?_
  unfold c2
  repeat fail
  refine p_biop (len_str (by omega)) ?_
  repeat fail
  · rename_i c
    repeat fail
    refine p_biop (len_str (by omega)) ?_
    repeat fail
    exact k2 (by omega)
  · rename_i c
    repeat fail
    refine p_methOk (ok_str (by rw [sm_split]; rfl)) ?_
    repeat fail
    refine p_methD (m_split len_nl (by omega)) ?_
    repeat fail
    exact k1 (by omega)
theorem s_badof (n : Nat) {d : D} {st : Store} {Q : D → Store → Prop} {E : Ex → Store → Prop} (hd : isiD d .str st = .ok (.bl false) st) (k : E ⟨0, .int (-1)⟩ st) : Run ((calls G (n + 1)).1 2 [d]) st Q E := by
  refine rd_def [some d] rfl rfl rfl rfl rfl ?_
  unfold c2
  repeat fail
  refine p_isiD hd ?_
  repeat fail
  exact k
theorem s_linesinit (n : Nat) {t : Str} {q : Nat} {st : Store} {Q : D → Store → Prop} {E : Ex → Store → Prop} (ht : t.length ≤ 1000000) (hq : st[q]? = some (.ins 1 []))
    (k1 : ∀ kl s, t.length ≤ 400000 → Fx [q] st s → s[q]? = some (.ins 1 (lsF kl 0)) → s[kl]? = some (.lst ((Txt.split t "\n").map .str)) → Q .non s) (k2 : ¬ t.length ≤ 400000 → E ⟨1, .int t.length⟩ st) : Run ((calls G (n + 2)).1 44 [.loc q, .str t]) st Q E := by
  refine rd_def [some (.loc q), some (.str t)] rfl rfl rfl rfl rfl ?_
  unfold c44
  repeat fail
  refine s_linesof n ht (fun c => ?_) (fun c => ?_)
  rotate_left
  · repeat fail
    exact k2 c
  repeat fail
  have hq1 : (st ++ [Ob.lst ((Txt.split t "\n").map .str)])[q]? = some (.ins 1 []) := (Fx.app st _).get hq (S := []) (by simp)
  have hl1 : (st ++ [Ob.lst ((Txt.split t "\n").map .str)])[st.length]? = some (.lst ((Txt.split t "\n").map .str)) := app_at
  have f1 : Fx [q] st (st ++ [Ob.lst ((Txt.split t "\n").map .str)]) := Fx.app _ _
  generalize (st ++ [Ob.lst ((Txt.split t "\n").map .str)]) = S1 at hq1 hl1 f1 ⊢
  refine p_setfD (setf_g hq1 f_l (show 0 < 1000 by decide) (gs := [("lines", .loc st.length)]) rfl) ?_
  repeat fail
  have hq2 := set_at (o := .ins 1 [("lines", .loc st.length)]) hq1
  have hl2 := set_out (o := .ins 1 [("lines", .loc st.length)]) hl1 hq1 (by intro z; cases z)
  have f2 := f1.set' (l := q) (o := .ins 1 [("lines", .loc st.length)]) (by simp)
  generalize S1.set q _ = S2 at hq2 hl2 f2 ⊢
  refine p_setfD (setf_g hq2 f_la (show 1 < 1000 by decide) (gs := lsF st.length 0) (by unfold lsF; simp only [setF, if_neg d_al])) ?_
  repeat fail
  exact k1 _ _ c (f2.set' (by simp)) (set_at hq2) (set_out hl2 hq2 (by intro z; cases z))
theorem s_badinit (n : Nat) {d : D} {q : Nat} {st : Store} {Q : D → Store → Prop} {E : Ex → Store → Prop} (hd : isiD d .str st = .ok (.bl false) st) (k : E ⟨0, .int (-1)⟩ st) : Run ((calls G (n + 2)).1 44 [.loc q, d]) st Q E := by
  refine rd_def [some (.loc q), some d] rfl rfl rfl rfl rfl ?_
  unfold c44
  repeat fail
  refine s_badof n hd ?_
  repeat fail
  exact k
theorem s_words (n : Nat) {t : Str} {st : Store} (ht : t.length ≤ 1000000) : (calls G (n + 1)).1 3 [.str t] st = .ok (.loc st.length) (st ++ [.lst ((Txt.split t " ").map .str)]) := by
  have hz := sizeL
  refine run_to (rd_def [some (.str t)] rfl rfl rfl rfl rfl ?_)
  unfold c3
  repeat fail
  refine p_methOk (ok_str (by rw [sm_split]; rfl)) ?_
  repeat fail
  refine p_methD (m_split len_sp (by omega)) ?_
  repeat fail
  exact ⟨rfl, rfl⟩
theorem s_lineinit (n : Nat) {t : Str} {q : Nat} {pl : Int} {st : Store} {Q : D → Store → Prop} {E : Ex → Store → Prop} (ht : t.length ≤ 1000000) (hq : st[q]? = some (.ins 0 []))
    (k1 : ∀ kw s, Fx [q] st s → s[q]? = some (.ins 0 (lnF kw pl 0)) → s[kw]? = some (.lst ((Txt.split t " ").map .str)) → Q .non s) : Run ((calls G (n + 2)).1 38 [.loc q, .str t, .int pl]) st Q E := by
  refine rd_def [some (.loc q), some (.str t), some (.int pl)] rfl rfl rfl rfl rfl ?_
  unfold c38
  repeat fail
  refine (run_eq (s_words n ht)).mpr ?_
  repeat fail
  have hq1 : (st ++ [Ob.lst ((Txt.split t " ").map .str)])[q]? = some (.ins 0 []) := (Fx.app st _).get hq (S := []) (by simp)
  have hl1 : (st ++ [Ob.lst ((Txt.split t " ").map .str)])[st.length]? = some (.lst ((Txt.split t " ").map .str)) := app_at
  have f1 : Fx [q] st (st ++ [Ob.lst ((Txt.split t " ").map .str)]) := Fx.app _ _
  generalize (st ++ [Ob.lst ((Txt.split t " ").map .str)]) = S1 at hq1 hl1 f1 ⊢
  refine p_setfD (setf_g hq1 f_w (show 0 < 1000 by decide) (gs := [("words", .loc st.length)]) rfl) ?_
  repeat fail
  have hq2 := set_at (o := .ins 0 [("words", .loc st.length)]) hq1
  have hl2 := set_out (o := .ins 0 [("words", .loc st.length)]) hl1 hq1 (by intro z; cases z)
  have f2 := f1.set' (l := q) (o := .ins 0 [("words", .loc st.length)]) (by simp)
  generalize S1.set q _ = S2 at hq2 hl2 f2 ⊢
  refine p_setfD (setf_g hq2 f_p (show 1 < 1000 by decide) (gs := [("words", .loc st.length), ("place", .int pl)]) (by simp only [setF, if_neg d_wp])) ?_
  repeat fail
  have hq3 := set_at (o := .ins 0 [("words", .loc st.length), ("place", .int pl)]) hq2
  have hl3 := set_out (o := .ins 0 [("words", .loc st.length), ("place", .int pl)]) hl2 hq2 (by intro z; cases z)
  have f3 := f2.set' (l := q) (o := .ins 0 [("words", .loc st.length), ("place", .int pl)]) (by simp)
  generalize S2.set q _ = S3 at hq3 hl3 f3 ⊢
  refine p_setfD (setf_g hq3 f_a (show 2 < 1000 by decide) (gs := lnF st.length pl 0) (by unfold lnF; simp only [setF, if_neg d_aw, if_neg d_ap])) ?_
  repeat fail
  exact k1 _ _ (f3.set' (by simp)) (set_at hq3) (set_out hl3 hq3 (by intro z; cases z))
theorem w_next {q kl : Nat} {i : Int} {st : Store} (h : st[q]? = some (.ins 1 (lsF kl i))) : methOk G (.loc q) "next" st = .ok () st := ok_ins (f := 45) h rfl (by unfold lsF; rw [List.lookup_cons, List.lookup_cons, show (("next" : Str) == "lines") = false by decide +kernel, show (("next" : Str) == "at") = false by decide +kernel]; rfl) (by decide +kernel)
theorem w_lend {q kl : Nat} {i : Int} {st : Store} (h : st[q]? = some (.ins 1 (lsF kl i))) : methOk G (.loc q) "end" st = .ok () st := ok_ins (f := 46) h rfl (by unfold lsF; rw [List.lookup_cons, List.lookup_cons, show (("end" : Str) == "lines") = false by decide +kernel, show (("end" : Str) == "at") = false by decide +kernel]; rfl) (by decide +kernel)
theorem w_end {q kw : Nat} {pl i : Int} {st : Store} (h : st[q]? = some (.ins 0 (lnF kw pl i))) : methOk G (.loc q) "end" st = .ok () st := ok_ins (f := 43) h rfl (by unfold lnF; rw [List.lookup_cons, List.lookup_cons, List.lookup_cons, show (("end" : Str) == "words") = false by decide +kernel, show (("end" : Str) == "place") = false by decide +kernel, show (("end" : Str) == "at") = false by decide +kernel]; rfl) (by decide +kernel)
theorem w_oneof {q kw : Nat} {pl i : Int} {st : Store} (h : st[q]? = some (.ins 0 (lnF kw pl i))) : methOk G (.loc q) "one_of" st = .ok () st := ok_ins (f := 41) h rfl (by unfold lnF; rw [List.lookup_cons, List.lookup_cons, List.lookup_cons, show (("one_of" : Str) == "words") = false by decide +kernel, show (("one_of" : Str) == "place") = false by decide +kernel, show (("one_of" : Str) == "at") = false by decide +kernel]; rfl) (by decide +kernel)
theorem w_number {q kw : Nat} {pl i : Int} {st : Store} (h : st[q]? = some (.ins 0 (lnF kw pl i))) : methOk G (.loc q) "number" st = .ok () st := ok_ins (f := 42) h rfl (by unfold lnF; rw [List.lookup_cons, List.lookup_cons, List.lookup_cons, show (("number" : Str) == "words") = false by decide +kernel, show (("number" : Str) == "place") = false by decide +kernel, show (("number" : Str) == "at") = false by decide +kernel]; rfl) (by decide +kernel)
theorem s_next0 (n : Nat) {q kl : Nat} {l0 : Str} {lr : List Str} {st : Store} {Q : D → Store → Prop} {E : Ex → Store → Prop} (h : st[q]? = some (.ins 1 (lsF kl 0))) (hL : st[kl]? = some (.lst ((l0 :: lr).map .str))) (ht : l0.length ≤ 1000000)
    (k1 : ∀ r kw s, Fx [q] st s → s[q]? = some (.ins 1 (lsF kl 1)) → st.length ≤ r → s[r]? = some (.ins 0 (lnF kw 0 0)) → s[kw]? = some (.lst ((Txt.split l0 " ").map .str)) → Q (.loc r) s) : Run ((calls G (n + 3)).1 45 [.loc q]) st Q E := by
  refine rd_def [some (.loc q)] rfl rfl rfl rfl rfl ?_
  unfold c45
  repeat fail
  refine p_attrD (attr_g h f_la lk_la) ?_
  repeat fail
  refine p_attrD (attr_g h f_l lk_l) ?_
  repeat fail
  refine p_biop (len_loc (.inl hL)) ?_
  repeat fail
  · rename_i c
    rw [List.map_cons, List.length_cons] at c
    omega
  repeat fail
  refine p_attrD (attr_g h f_la lk_la) ?_
  repeat fail
  refine p_setfD (setf_g h f_la (show 2 < 1000 by decide) sf_la) ?_
  repeat fail
  have h' := set_at (o := .ins 1 (lsF kl ((0 : Int) + 1))) h
  have hL' := set_out (o := .ins 1 (lsF kl ((0 : Int) + 1))) hL h (by intro z; cases z)
  have f' : Fx [q] st (st.set q (.ins 1 (lsF kl ((0 : Int) + 1)))) := Fx.set (by simp)
  have el : (st.set q (.ins 1 (lsF kl ((0 : Int) + 1)))).length = st.length := List.length_set
  generalize st.set q (.ins 1 (lsF kl ((0 : Int) + 1))) = S1 at h' hL' f' el ⊢
  refine p_attrD (attr_g h' f_l lk_l) ?_
  repeat fail
  refine p_attrD (attr_g h' f_la lk_la) ?_
  repeat fail
  have e1 : (0 : Int) + 1 - 1 = 0 := by omega
  rw [e1]
  refine p_idxD (idx_loc (.inl hL') (by rw [List.map_cons]; exact at0)) ?_
  repeat fail
  refine p_attrD (attr_g h' f_la lk_la) ?_
  repeat fail
  rw [e1]
  refine mk_0 ?_
  refine s_lineinit n ht app_at (fun kw s fs g1 g2 => ⟨rfl, ?_⟩)
  repeat fail
  have f2 : Fx [q] st s := (f'.trans (Fx.app _ _)).new fs (by intro l hl; rw [List.mem_singleton.mp hl]; left; omega)
  refine k1 _ kw s f2 ?_ (by omega) g1 g2
  exact fs.get ((Fx.app S1 _).get (S := []) h' (by simp)) (by
    rw [List.mem_singleton]
    have := (List.getElem?_eq_some_iff.mp h').1
    omega)
theorem s_lsend (n : Nat) {q kl i : Nat} {L : List Str} {st : Store} {Q : D → Store → Prop} {E : Ex → Store → Prop} (h : st[q]? = some (.ins 1 (lsF kl (i : Int)))) (hL : st[kl]? = some (.lst (L.map .str)))
    (k1 : L.length ≤ i → Q .non st) (k2 : i < L.length → E ⟨4, .tup [.int (i : Int), .int 0]⟩ st) : Run ((calls G (n + 1)).1 46 [.loc q]) st Q E := by
  refine rd_def [some (.loc q)] rfl rfl rfl rfl rfl ?_
  unfold c46
  repeat fail
  refine p_attrD (attr_g h f_la lk_la) ?_
  repeat fail
  refine p_attrD (attr_g h f_l lk_l) ?_
  repeat fail
  refine p_biop (len_loc (.inl hL)) ?_
  repeat fail
  · rename_i c
    rw [List.length_map] at c
    refine p_attrD (attr_g h f_la lk_la) ?_
    repeat fail
    exact k2 (by omega)
  · rename_i c
    rw [List.length_map] at c
    repeat fail
    exact k1 (by omega)
end MI.P

set_option Elab.async false
set_option linter.all false
set_option maxRecDepth 100000
set_option maxHeartbeats 4000000
/-! PLAIN, part 12: the program's read_keys. -/
namespace MI.P
open PySem K82
open TL (tl)
local macro_rules | `(tactic| fail) => `(tactic| first
  | ((with_reducible refine e_var.mpr ?_); refine ⟨_, rfl, ?_⟩)
  | with_reducible refine e_c.mpr ?_
  | with_reducible refine e_gv.mpr ?_
  | with_reducible refine e_bin.mpr ?_
  | with_reducible refine e_cmp.mpr ?_
  | with_reducible refine e_chain.mpr ?_
  | with_reducible refine e_neg.mpr ?_
  | with_reducible refine e_not.mpr ?_
  | with_reducible refine e_and.mpr ?_
  | with_reducible refine e_or.mpr ?_
  | with_reducible refine e_ife.mpr ?_
  | with_reducible refine e_nil.mpr ?_
  | with_reducible refine e_cons.mpr ?_
  | with_reducible refine e_consT.mpr ?_
  | with_reducible refine e_consU.mpr ?_
  | with_reducible refine e_rep.mpr ?_
  | with_reducible refine e_tup.mpr ?_
  | with_reducible refine e_lst.mpr ?_
  | with_reducible refine e_idx.mpr ?_
  | with_reducible refine e_part.mpr ?_
  | with_reducible refine e_sl.mpr ?_
  | with_reducible refine e_attr.mpr ?_
  | with_reducible refine e_call.mpr ?_
  | with_reducible refine e_make.mpr ?_
  | with_reducible refine e_meth.mpr ?_
  | with_reducible refine e_bi.mpr ?_
  | with_reducible refine e_isi.mpr ?_
  | with_reducible refine e_yes.mpr ?_
  | with_reducible refine e_lc.mpr ?_
  | with_reducible refine runS_seq.mpr ?_
  | with_reducible refine t_skip.mpr ?_
  | with_reducible refine t_asg.mpr ?_
  | with_reducible refine t_setf.mpr ?_
  | with_reducible refine t_augf.mpr ?_
  | with_reducible refine t_seti.mpr ?_
  | with_reducible refine t_exp.mpr ?_
  | with_reducible refine t_ite.mpr ?_
  | with_reducible refine t_ret.mpr ?_
  | with_reducible refine t_retn.mpr ?_
  | with_reducible refine t_raise.mpr ?_
  | with_reducible refine t_for.mpr ?_
  | with_reducible refine k_nx ?_
  | with_reducible refine k_rt ?_
  | with_reducible refine k_xx ?_
  | with_reducible refine q_nx ?_
  | with_reducible refine q_rt ?_
  | with_reducible refine q_xx ?_
  | ((with_reducible refine g_isiD ?_); refine p_isiD rfl ?_)
  | ((with_reducible refine g_cmpop ?_); refine p_cmpop rfl ?_)
  | ((with_reducible refine g_binop ?_); refine p_binop rfl ?_)
  | ((with_reducible refine g_consD ?_); refine p_consD rfl ?_)
  | ((with_reducible refine g_biop ?_); refine p_biop rfl ?_)
  | ((with_reducible refine g_idxD ?_); refine p_idxD rfl ?_)
  | ((with_reducible refine g_sliD ?_); refine p_sliD rfl ?_)
  | ((with_reducible refine g_augop ?_); refine p_augop rfl ?_)
  | ((with_reducible refine g_setiD ?_); refine p_setiD rfl ?_)
  | ((with_reducible refine g_srcOf ?_); refine p_srcOf rfl ?_)
  | ((with_reducible refine g_repD ?_); refine p_repD rfl ?_)
  | with_reducible refine b_nm0 ?_
  | ((with_reducible refine b_nm ?h0 ?_); (case h0 => rfl))
  | ((with_reducible refine g_bindT ?_); refine p_bindT rfl ?_)
  | ((with_reducible refine g_itOf ?_); refine p_itOf rfl ?_)
  | ((with_reducible refine e_lam.mpr ?_); refine ⟨_, rfl, ?_⟩)
  | ((with_reducible refine t_aug.mpr ?_); refine ⟨_, rfl, ?_⟩)
  | ((with_reducible refine ex_tup ?h0 ?_); (case h0 => exact Nat.le_of_ble_eq_true rfl))
  | with_reducible refine br_t ?_
  | with_reducible refine br_f ?_
  | with_reducible refine br_nd (fun h => ?_) (fun h => ?_)
  | with_reducible refine br_d (fun h => ?_) (fun h => ?_)
  | ((with_reducible refine br_g ?_); refine br_t ?_)
  | ((with_reducible refine br_g ?_); refine br_f ?_)
  | with_reducible refine br_n (fun h => ?_) (fun h => ?_)
  | with_reducible refine br_b (fun h => ?_) (fun h => ?_)
  | with_reducible refine ⟨_, rfl, ?_⟩)
theorem firstB_at {k : Nat} : ∀ {bs : List Bool} {i : Nat} (b : Nat), (∀ j, j < b → i + j < k ∧ bs[j]? = some true) → (k ≤ i + b ∧ b < bs.length ∨ bs[b]? = some false) → firstB k i bs = some (i + b)
  | [], i, b, h, e => by simp at e
  | x :: r, i, 0, h, e => by
    unfold firstB
    rw [if_pos ?_]
    · rfl
    · rcases e with e | e
      · left
        omega
      · right
        simpa using e
  | x :: r, i, b + 1, h, e => by
    obtain ⟨h1, h2⟩ := h 0 (by omega)
    have h2 : x = true := by simpa using h2
    have ih := firstB_at (k := k) (bs := r) (i := i + 1) b (fun j hj => by
      obtain ⟨g1, g2⟩ := h (j + 1) (by omega)
      exact ⟨by omega, by simpa using g2⟩) (by
      rcases e with e | e
      · left
        simp only [List.length_cons] at e
        omega
      · right
        simpa using e)
    unfold firstB
    rw [if_neg (by rw [h2]; exact fun z => z.elim (fun z => by omega) (fun z => by cases z)), ih]
    congr 1
    omega
theorem firstB_no {k : Nat} : ∀ {bs : List Bool} {i : Nat}, (∀ j, j < bs.length → i + j < k ∧ bs[j]? = some true) → firstB k i bs = none
  | [], i, h => rfl
  | x :: r, i, h => by
    obtain ⟨h1, h2⟩ := h 0 (by simp)
    have h2 : x = true := by simpa using h2
    unfold firstB
    rw [if_neg (by rw [h2]; exact fun z => z.elim (fun z => by omega) (fun z => by cases z))]
    refine firstB_no fun j hj => ?_
    obtain ⟨g1, g2⟩ := h (j + 1) (by simp only [List.length_cons]; omega)
    exact ⟨by omega, by simpa using g2⟩
theorem kb_len {k : Nat} : (kb k).length = k + 1 := by simp [kb]
theorem kb0 {k : Nat} : (kb k).getD 0 (0, 0) = (1, 1000000) := rfl
theorem kbS {k i : Nat} (h : i < k) : (kb k).getD (i + 1) (0, 0) = (0, 1000000000000) := by
  unfold kb
  simp [List.getD_eq_getElem?_getD, h]
theorem lets_len {W : List Str} {k : Nat} : (letsB "keys" W (kb k)).length = k + 2 := by
  unfold letsB
  simp [found_len, kb_len]
theorem lets0 {W : List Str} {k : Nat} : (letsB "keys" W (kb k))[0]? = some (decide (W.getD 0 "" = "keys")) := rfl
theorem found_at {W : List Str} {bs : List (Int × Int)} {i : Nat} (h : i < bs.length) : (foundO W bs)[i]? = some (inO (W.getD (1 + i) "") (bs.getD i (0, 0)).1 (bs.getD i (0, 0)).2) := by
  unfold foundO
  simp [h]
theorem lets1 {W : List Str} {k : Nat} : (letsB "keys" W (kb k))[1]? = some (inO (W.getD 1 "") 1 1000000).isSome := by
  unfold letsB
  rw [List.getElem?_cons_succ, List.getElem?_map, found_at (by rw [kb_len]; omega)]
  rfl
theorem letsS {W : List Str} {k i : Nat} (h : i < k) : (letsB "keys" W (kb k))[2 + i]? = some (inO (W.getD (2 + i) "") 0 1000000000000).isSome := by
  unfold letsB
  rw [show 2 + i = (i + 1) + 1 by omega, List.getElem?_cons_succ, List.getElem?_map, found_at (by rw [kb_len]; omega), kbS h, show 1 + (i + 1) = i + 1 + 1 by omega]
  rfl
theorem told_eq {W : List Str} {k : Nat} : ((foundO W (kb k)).getD 0 none).getD 0 = (inO (W.getD 1 "") 1 1000000).getD 0 ∧ ((foundO W (kb k)).drop 1).map (fun o => o.getD 0) = (List.range' 0 k).map fun i => (inO (W.getD (2 + i) "") 0 1000000000000).getD 0 := by
  refine ⟨?_, ?_⟩
  · rw [List.getD_eq_getElem?_getD, found_at (by rw [kb_len]; omega)]
    rfl
  · apply List.ext_getElem?
    intro i
    rw [List.getElem?_map, List.getElem?_map, List.getElem?_drop]
    by_cases h : i < k
    · rw [show 1 + i = i + 1 by omega, found_at (by rw [kb_len]; omega), kbS h]
      simp [h, show 1 + (i + 1) = 2 + i by omega]
    · rw [List.getElem?_eq_none (by rw [found_len, kb_len]; omega), List.getElem?_eq_none (by simp; omega)]
      rfl
def REx : RKR → Ex → Prop
  | .told _ _, _ => False
  | .wrong a b, x => x = ⟨4, .tup [.int (a : Int), .int (b : Int)]⟩
  | .many m, x => x = ⟨1, .int (m : Int)⟩
def Upto (W : List Str) (k m : Nat) : Prop := ∀ j, j < m → 0 + j < W.length ∧ (letsB "keys" W (kb k))[j]? = some true
theorem Upto.snoc {W : List Str} {k m : Nat} (h : Upto W k m) (h1 : m < W.length) (h2 : (letsB "keys" W (kb k))[m]? = some true) : Upto W k (m + 1) := by
  intro j hj
  rcases Nat.lt_or_ge j m with c | c
  · exact h j c
  · have : j = m := by omega
    subst this
    exact ⟨by omega, h2⟩
theorem wrong_at {W : List Str} {k b : Nat} (h : Upto W k b) (hb : b < k + 2) (e : W.length ≤ b ∨ (letsB "keys" W (kb k))[b]? = some false) : wrongW W.length (letsB "keys" W (kb k)) = some b := by
  unfold wrongW
  rw [firstB_at b h (by
    rcases e with e | e
    · left
      rw [lets_len]
      omega
    · exact .inr e)]
  simp
theorem wrong_end {W : List Str} {k : Nat} (h : Upto W k (k + 2)) : wrongW W.length (letsB "keys" W (kb k)) = if k + 2 < W.length then some (k + 2) else none := by
  unfold wrongW
  rw [firstB_no fun j hj => h j (by rw [lets_len] at hj; exact hj), lets_len]
theorem get_len {t y : Str} {w : Str} (h : w ∈ Txt.split t y) (ht : t.length ≤ 1000000) : w.length ≤ sizeLine := by
  have hz := sizeL
  have := (split_mem h).2
  omega
theorem vld_int {st : Store} {i : Int} : Vld st (.int i) := trivial
theorem num_ok {k : Nat} (h : k ≤ 40) : isNum (.int (k : Int)) 0 40 = true := by
  unfold isNum
  simp
  omega
theorem s_read (n k : Nat) {t : Str} {st : Store} (hk : k ≤ 40) (ht : t.length ≤ 1000000) :
    Run ((calls G (n + 5)).1 7 [.int (k : Int), .str t]) st (fun d s => Fx [] st s ∧ ∃ a as, RK k t = .told a as ∧ d = .tup [.int a, .tup (as.map .int)]) fun x s => Fx [] st s ∧ REx (RK k t) x := by
  have hz := sizeL
  refine rd_defC [some (.int (k : Int)), some (.str t), none, none, none, none, none] [(3, st.length)] [.cell none] rfl rfl rfl rfl rfl rfl ?_
  unfold c7
  have f0 : Fx [] st (st ++ [Ob.cell none]) := Fx.app _ _
  have l0 : (st ++ [Ob.cell none]).length = st.length + 1 := by simp
  generalize hC : st ++ [Ob.cell none] = C at f0 l0 ⊢
  repeat fail
  refine s_asked (n + 2) vld_int (fun _ => ?_) (fun z => by rw [num_ok hk] at z; cases z)
  repeat fail
  refine mk_1 ?_
  refine s_linesinit (n + 2) ht app_at (fun kl s h4 fs g1 g2 => ⟨rfl, ?_⟩) (fun h4 => ?_)
  rotate_left
  · repeat fail
    refine ⟨(f0.apps _).kill (Nat.le_refl _), ?_⟩
    unfold RK
    rw [if_neg h4]
    rfl
  repeat fail
  have hqn : ∀ {x : Nat}, x ∈ [C.length] → st.length ≤ x ∨ x ∈ ([] : List Nat) := fun hx => by rw [List.mem_singleton.mp hx]; left; omega
  have f1 : Fx [] st s := (f0.apps _).new fs fun l hl => hqn hl
  have sl : C.length + 1 ≤ s.length := by
    have := fs.1
    simpa using this
  refine p_methOk (w_next g1) ?_
  repeat fail
  refine m_ins (f := 45) g1 rfl (by decide +kernel) ?_
  obtain ⟨l0, lr, hL⟩ : ∃ l0 lr, Txt.split t "\n" = l0 :: lr := by
    cases e : Txt.split t "\n" with
    | nil => exact absurd e (split_ne _ _ (.inr len_nl))
    | cons a r => exact ⟨a, r, rfl⟩
  have hl0 := split_mem (x := t) (y := "\n") (p := l0) (by rw [hL]; exact List.mem_cons_self)
  rw [hL] at g2
  refine s_next0 (n + 1) g1 g2 (by omega) (fun r kw s2 fs2 q1 hr r1 r2 => ?_)
  repeat fail
  have f2 : Fx [] st s2 := f1.new fs2 fun l hl => hqn hl
  have g2' := fs2.get g2 (by
    rw [List.mem_singleton]
    rintro rfl
    rw [g1] at g2
    cases g2)
  have hs2 : st.length < s2.length := by
    have := fs2.1
    omega
  have hrn : r ≠ st.length := by omega
  have hne : ∀ {x : Nat} {o p : Ob}, s2[x]? = some p → (x ≠ st.length) → (s2.set st.length o)[x]? = some p := fun h1 h2 => by rw [List.getElem?_set_ne (by omega)]; exact h1
  have hcell : s2[st.length]? = some (.cell none) := by
    have hc0 : (C ++ [Ob.ins 1 []])[st.length]? = some (.cell none) := by
      rw [← hC]
      simp
    have hc1 := fs.get hc0 (by rw [List.mem_singleton]; omega)
    exact fs2.get hc1 (by rw [List.mem_singleton]; omega)
  have hx : ∀ {x : Nat} {p : Ob}, s2[x]? = some p → p ≠ .cell none → x ≠ st.length := fun h1 h2 e => by
    rw [e, hcell] at h1
    exact h2 (Option.some.inj h1).symm
  have r1' := hne (o := .cell (some (.loc r))) r1 (hx r1 (by intro z; cases z))
  have r2' := hne (o := .cell (some (.loc r))) r2 (hx r2 (by intro z; cases z))
  have q1' := hne (o := .cell (some (.loc r))) q1 (hx q1 (by intro z; cases z))
  have g2' := hne (o := .cell (some (.loc r))) g2' (hx g2' (by intro z; cases z))
  have f3 : Fx [] st (s2.set st.length (.cell (some (.loc r)))) := f2.setNew (Nat.le_refl _)
  generalize s2.set st.length (.cell (some (.loc r))) = S3 at r1' r2' q1' g2' f3 ⊢
  have hrst : st.length ≤ r := by omega
  have hwf : firstW t = Txt.split l0 " " := by
    unfold firstW
    rw [hL]
    rfl
  have hWl : ∀ w ∈ Txt.split l0 " ", w.length ≤ sizeLine := fun w hw => get_len hw (by omega)
  obtain ⟨w0, wr, hW⟩ : ∃ w0 wr, Txt.split l0 " " = w0 :: wr := by
    cases e : Txt.split l0 " " with
    | nil => exact absurd e (split_ne _ _ (.inr len_sp))
    | cons a r => exact ⟨a, r, rfl⟩
  have hW0 : 0 < (Txt.split l0 " ").length := by rw [hW]; simp
  have hbad : ∀ {b : Nat} {s : Store}, Fx [] st s → wrongW (Txt.split l0 " ").length (letsB "keys" (Txt.split l0 " ") (kb k)) = some b → Fx [] st (killC s st.length 1) ∧ REx (RK k t) ⟨4, .tup [.int ((0 : Nat) : Int), .int (b : Int)]⟩ := by
    intro b s fs e
    refine ⟨fs.kill (Nat.le_refl _), ?_⟩
    unfold RK
    rw [if_pos h4, hwf, e]
    rfl
  have up0 : Upto (Txt.split l0 " ") k 0 := fun j hj => absurd hj (by omega)
  have hrn : ∀ {l : Nat}, l ∈ [r] → st.length ≤ l ∨ l ∈ ([] : List Nat) := fun hl => by rw [List.mem_singleton.mp hl]; left; omega
  have nq : C.length ≠ r := by omega
  have nkl : kl ≠ r := by
    rintro rfl
    rw [r1'] at g2'
    cases g2'
  have nkw : kw ≠ r := by
    rintro rfl
    rw [r1'] at r2'
    cases r2'
  refine p_methOk (w_oneof r1') ?_
  repeat fail
  refine m_ins (f := 41) r1' rfl (by decide +kernel) ?_
  refine s_oneof (n + 1) (i := 0) r1' r2' hW0 (fun s3 e f4 r3 d => ?_) (fun s3 e f4 => ?_)
  rotate_left
  · repeat fail
    exact hbad (f3.new f4 fun l hl => hrn hl) (wrong_at up0 (by omega) (.inr (by rw [lets0, decide_eq_false e])))
  have up1 : Upto (Txt.split l0 " ") k 1 := up0.snoc hW0 (by rw [lets0, decide_eq_true e])
  have f5 := f3.new f4 fun l hl => hrn hl
  have q3 := f4.get q1' (by rw [List.mem_singleton]; exact nq)
  have gL3 := f4.get g2' (by rw [List.mem_singleton]; exact nkl)
  have gW3 := f4.get r2' (by rw [List.mem_singleton]; exact nkw)
  repeat fail
  refine p_methOk (w_number r3) ?_
  repeat fail
  refine m_ins (f := 42) r3 rfl (by decide +kernel) ?_
  refine s_number42 (n + 1) (i := 1) r3 gW3 (by omega) hWl (fun v s4 hi e1 f6 r4 => ?_) (fun s4 e1 f6 => ?_)
  rotate_left
  · repeat fail
    refine hbad (f5.new f6 fun l hl => hrn hl) (wrong_at up1 (by omega) ?_)
    rcases e1 with e1 | e1
    · exact .inl (by omega)
    · exact .inr (by rw [lets1, e1]; rfl)
  have up2 : Upto (Txt.split l0 " ") k 2 := up1.snoc hi (by rw [lets1, e1]; rfl)
  have f7 := f5.new f6 fun l hl => hrn hl
  have q4 := f6.get q3 (by rw [List.mem_singleton]; exact nq)
  have gL4 := f6.get gL3 (by rw [List.mem_singleton]; exact nkl)
  have gW4 := f6.get gW3 (by rw [List.mem_singleton]; exact nkw)
  repeat fail
  with_reducible refine p_itOf (itr (by omega)) ?_
  refine ⟨by show (List.map _ _).length ≤ _; simp; omega, ?_⟩
  refine (lc_run (E := fun x s => Fx [] st (killC s st.length 1) ∧ REx (RK k t) x) (fun r' a s => ∃ i, r' = ((List.range' i (k - i)).map fun (k : Nat) => D.int (k : Int)) ∧ i ≤ k ∧ a = ((List.range' 0 i).map fun i => D.int ((inO ((Txt.split l0 " ").getD (2 + i) "") 0 1000000000000).getD 0)) ∧ Upto (Txt.split l0 " ") k (2 + i) ∧ s[r]? = some (.ins 0 (lnF kw 0 ((2 + i : Nat) : Int))) ∧ Fx [r] s4 s) (fun _ _ _ _ => rfl) ?_ _ [] _ ⟨0, rfl, Nat.zero_le _, rfl, up2, r4, Fx.refl _⟩).imp (fun res s kk => ?_) fun x s z => ?_
  · rintro d r' a s ⟨i, e, hi, rfl, up, rr, fs⟩
    have hlt : i < k := by
      rcases Nat.lt_or_ge i k with z | z
      · exact z
      · rw [show k - i = 0 by omega] at e
        cases e
    rw [show k - i = (k - (i + 1)) + 1 by omega, List.range'_succ, List.map_cons] at e
    obtain ⟨rfl, rfl⟩ := List.cons.inj e
    refine lcT_run.mpr ?_
    repeat fail
    refine p_methOk (w_number rr) ?_
    repeat fail
    refine m_ins (f := 42) rr rfl (by decide +kernel) ?_
    have gW := fs.get gW4 (by rw [List.mem_singleton]; exact nkw)
    refine s_number42 (n + 1) (i := 2 + i) rr gW ?_ hWl (fun v s5 hi e1 f8 r5 => ?_) (fun s5 e1 f8 => ?_)
    · have := (up (2 + i - 1) (by omega)).1
      omega
    · repeat fail
      refine ⟨by omega, ?_, ?_, r5, fs.trans f8⟩
      · rw [List.range'_1_concat, List.map_append]
        rw [List.map_cons, List.map_nil, Nat.zero_add, e1]
        rfl
      · exact up.snoc hi (by rw [letsS hlt, e1]; rfl)
    · repeat fail
      refine hbad ((f7.new fs fun l hl => hrn hl).new f8 fun l hl => hrn hl) (wrong_at up (by omega) ?_)
      rcases e1 with e1 | e1
      · exact .inl (by omega)
      · exact .inr (by rw [letsS hlt, e1]; rfl)
  · obtain ⟨i, e, hi, er, up, rr, fs⟩ := kk
    have hi2 : i = k := by
      have : k - i = 0 := by
        cases q : k - i with
        | zero => rfl
        | succ k => rw [q, List.range'_succ] at e; cases e
      omega
    subst hi2
    rw [List.nil_append] at er
    subst er
    have f9 := (f7.new fs fun l hl => hrn hl).apps [Ob.lst ((List.range' 0 i).map fun i => D.int ((inO ((Txt.split l0 " ").getD (2 + i) "") 0 1000000000000).getD 0))]
    have q5 := (fs.apps [Ob.lst ((List.range' 0 i).map fun i => D.int ((inO ((Txt.split l0 " ").getD (2 + i) "") 0 1000000000000).getD 0))]).get q4 (by rw [List.mem_singleton]; exact nq)
    have gL5 := (fs.apps [Ob.lst ((List.range' 0 i).map fun i => D.int ((inO ((Txt.split l0 " ").getD (2 + i) "") 0 1000000000000).getD 0))]).get gL4 (by rw [List.mem_singleton]; exact nkl)
    have gW5 := (fs.apps [Ob.lst ((List.range' 0 i).map fun i => D.int ((inO ((Txt.split l0 " ").getD (2 + i) "") 0 1000000000000).getD 0))]).get gW4 (by rw [List.mem_singleton]; exact nkw)
    have r5 := (Fx.app (S := []) s [Ob.lst ((List.range' 0 i).map fun i => D.int ((inO ((Txt.split l0 " ").getD (2 + i) "") 0 1000000000000).getD 0))]).get rr (by simp)
    have a5 : (s ++ [Ob.lst ((List.range' 0 i).map fun i => D.int ((inO ((Txt.split l0 " ").getD (2 + i) "") 0 1000000000000).getD 0))])[s.length]? = some (Ob.lst ((List.range' 0 i).map fun i => D.int ((inO ((Txt.split l0 " ").getD (2 + i) "") 0 1000000000000).getD 0))) := app_at
    generalize (s ++ [Ob.lst ((List.range' 0 i).map fun i => D.int ((inO ((Txt.split l0 " ").getD (2 + i) "") 0 1000000000000).getD 0))]) = S5 at f9 q5 gL5 gW5 r5 a5 ⊢
    have hgW := (up (2 + i - 1) (by omega)).1
    rw [show 2 + i = i + 2 by omega] at up
    have we := wrong_end up
    repeat fail
    refine p_methOk (w_end r5) ?_
    repeat fail
    refine m_ins (f := 43) r5 rfl (by decide +kernel) ?_
    refine s_lend (n + 2) (i := 2 + i) r5 gW5 (fun hc => ?_) (fun hc => ?_)
    rotate_left
    · repeat fail
      refine hbad f9 ?_
      rw [we, if_pos (by omega)]
      rw [show 2 + i = i + 2 by omega]
    rw [if_neg (by omega)] at we
    repeat fail
    refine p_methOk (w_lend q5) ?_
    repeat fail
    refine m_ins (f := 46) q5 rfl (by decide +kernel) ?_
    refine s_lsend (n + 3) (i := 1) q5 gL5 (fun hc => ?_) (fun hc => ?_)
    rotate_left
    · repeat fail
      refine ⟨f9.kill (Nat.le_refl _), ?_⟩
      unfold RK
      rw [if_pos h4, hwf, we, hL]
      simp only
      rw [if_neg (by omega)]
      rfl
    repeat fail
    refine p_biop (tuple_loc a5) ?_
    repeat fail
    refine ⟨f9.kill (Nat.le_refl _), v, (List.range' 0 i).map fun i => (inO ((Txt.split l0 " ").getD (2 + i) "") 0 1000000000000).getD 0, ?_, ?_⟩
    · unfold RK
      rw [if_pos h4, hwf, we, hL]
      simp only
      rw [if_pos (by simp only [List.length_cons] at hc ⊢; omega)]
      have := told_eq (W := Txt.split l0 " ") (k := i)
      rw [this.1, this.2]
      rw [e1]
      rfl
    · rw [List.map_map]
      rfl
  · repeat fail
    exact z
end MI.P

set_option Elab.async false
set_option linter.all false
set_option maxRecDepth 100000
set_option maxHeartbeats 4000000
/-! PLAIN, part 13: keys as a text, what keys are. -/
namespace MI.P
open PySem K82
open TL (tl)
local macro_rules | `(tactic| fail) => `(tactic| first
  | ((with_reducible refine e_var.mpr ?_); refine ⟨_, rfl, ?_⟩)
  | with_reducible refine e_c.mpr ?_
  | with_reducible refine e_gv.mpr ?_
  | with_reducible refine e_bin.mpr ?_
  | with_reducible refine e_cmp.mpr ?_
  | with_reducible refine e_chain.mpr ?_
  | with_reducible refine e_neg.mpr ?_
  | with_reducible refine e_not.mpr ?_
  | with_reducible refine e_and.mpr ?_
  | with_reducible refine e_or.mpr ?_
  | with_reducible refine e_ife.mpr ?_
  | with_reducible refine e_nil.mpr ?_
  | with_reducible refine e_cons.mpr ?_
  | with_reducible refine e_consT.mpr ?_
  | with_reducible refine e_consU.mpr ?_
  | with_reducible refine e_rep.mpr ?_
  | with_reducible refine e_tup.mpr ?_
  | with_reducible refine e_lst.mpr ?_
  | with_reducible refine e_idx.mpr ?_
  | with_reducible refine e_part.mpr ?_
  | with_reducible refine e_sl.mpr ?_
  | with_reducible refine e_attr.mpr ?_
  | with_reducible refine e_call.mpr ?_
  | with_reducible refine e_make.mpr ?_
  | with_reducible refine e_meth.mpr ?_
  | with_reducible refine e_bi.mpr ?_
  | with_reducible refine e_isi.mpr ?_
  | with_reducible refine e_yes.mpr ?_
  | with_reducible refine e_lc.mpr ?_
  | with_reducible refine runS_seq.mpr ?_
  | with_reducible refine t_skip.mpr ?_
  | with_reducible refine t_asg.mpr ?_
  | with_reducible refine t_setf.mpr ?_
  | with_reducible refine t_augf.mpr ?_
  | with_reducible refine t_seti.mpr ?_
  | with_reducible refine t_exp.mpr ?_
  | with_reducible refine t_ite.mpr ?_
  | with_reducible refine t_ret.mpr ?_
  | with_reducible refine t_retn.mpr ?_
  | with_reducible refine t_raise.mpr ?_
  | with_reducible refine t_for.mpr ?_
  | with_reducible refine k_nx ?_
  | with_reducible refine k_rt ?_
  | with_reducible refine k_xx ?_
  | with_reducible refine q_nx ?_
  | with_reducible refine q_rt ?_
  | with_reducible refine q_xx ?_
  | ((with_reducible refine g_isiD ?_); refine p_isiD rfl ?_)
  | ((with_reducible refine g_cmpop ?_); refine p_cmpop rfl ?_)
  | ((with_reducible refine g_binop ?_); refine p_binop rfl ?_)
  | ((with_reducible refine g_consD ?_); refine p_consD rfl ?_)
  | ((with_reducible refine g_biop ?_); refine p_biop rfl ?_)
  | ((with_reducible refine g_idxD ?_); refine p_idxD rfl ?_)
  | ((with_reducible refine g_sliD ?_); refine p_sliD rfl ?_)
  | ((with_reducible refine g_augop ?_); refine p_augop rfl ?_)
  | ((with_reducible refine g_setiD ?_); refine p_setiD rfl ?_)
  | ((with_reducible refine g_srcOf ?_); refine p_srcOf rfl ?_)
  | ((with_reducible refine g_repD ?_); refine p_repD rfl ?_)
  | with_reducible refine b_nm0 ?_
  | ((with_reducible refine b_nm ?h0 ?_); (case h0 => rfl))
  | ((with_reducible refine g_bindT ?_); refine p_bindT rfl ?_)
  | ((with_reducible refine g_itOf ?_); refine p_itOf rfl ?_)
  | ((with_reducible refine e_lam.mpr ?_); refine ⟨_, rfl, ?_⟩)
  | ((with_reducible refine t_aug.mpr ?_); refine ⟨_, rfl, ?_⟩)
  | ((with_reducible refine ex_tup ?h0 ?_); (case h0 => exact Nat.le_of_ble_eq_true rfl))
  | with_reducible refine br_t ?_
  | with_reducible refine br_f ?_
  | with_reducible refine br_nd (fun h => ?_) (fun h => ?_)
  | with_reducible refine br_d (fun h => ?_) (fun h => ?_)
  | ((with_reducible refine br_g ?_); refine br_t ?_)
  | ((with_reducible refine br_g ?_); refine br_f ?_)
  | with_reducible refine br_n (fun h => ?_) (fun h => ?_)
  | with_reducible refine br_b (fun h => ?_) (fun h => ?_)
  | with_reducible refine ⟨_, rfl, ?_⟩)
abbrev numS (i : Int) : Str := Str.ofString (toString i)
def kTl (s : Int) (ss : List Int) : List Str := "keys" :: numS s :: ss.map numS
def kT (s : Int) (ss : List Int) : Str := Str.join " " (kTl s ss)
theorem str_int {i : Int} {st : Store} (h0 : 0 ≤ i) (h1 : i ≤ 1000000000000) : biop .str [.int i] st = .ok (.str (numS i)) st := by
  have e : decide (i.natAbs.log2 < 1920) = true := by
    rw [decide_eq_true_eq]
    by_cases z : i.natAbs = 0
    · rw [z]
      decide
    · have : i.natAbs.log2 < 64 := (Nat.log2_lt z).mpr (by omega)
      omega
  show bnd (guard (decide (i.natAbs.log2 < 1920))) (fun _ => ret (D.str (numS i))) st = _
  rw [e]
  rfl
theorem tl_numS {i : Int} (h0 : 0 ≤ i) : tl (numS i) = TL.numL i.toNat := by
  have := TL.tl_num i.toNat
  rw [Int.toNat_of_nonneg h0] at this
  exact this
theorem numS_len {i : Int} (h0 : 0 ≤ i) (h1 : i ≤ 1000000000000) : (numS i).length ≤ 13 := by
  rw [slen, tl_numS h0]
  exact TL.numL_len (by decide) (by omega)
theorem numS_ok {i : Int} (h0 : 0 ≤ i) : cOk (numS i) := by
  intro c hc
  have hc : c ∈ tl (numS i) := hc
  rw [tl_numS h0] at hc
  have := TL.numL_digits i.toNat c hc
  omega
theorem strs_of : ∀ {ys : List Str}, strsOf (ys.map D.str) = some ys
  | [] => rfl
  | y :: r => by
    show (strsOf (r.map D.str)).map (y :: ·) = _
    rw [strs_of]
    rfl
theorem m_join {G : GP} {cf : Nat → List D → M D} {s : Str} {l : Nat} {ys : List Str} {st : Store} (h : st[l]? = some (.lst (ys.map D.str))) (hs : (ys.map (·.length)).sum + ys.length * s.length ≤ 16777216) : methD G cf (D.str s) "join" [D.loc l] st = Res.ok (D.str (Str.join s ys)) st := by
  show (match smOf "join" with
    | some k => strM k s [.loc l]
    | none => no) st = _
  rw [sm_join]
  show bnd (seqOf (.loc l)) (fun ds => bnd (ofO (strsOf ds)) fun ys => bnd (guard (decide ((ys.map (·.length)).sum + ys.length * s.length ≤ 16777216))) fun _ => ret (D.str (PySem.Txt.join s ys))) st = _
  have e : seqOf (.loc l) st = .ok (ys.map D.str) st := by
    unfold seqOf
    simp only [h]
  unfold bnd
  simp only [e]
  simp only [strs_of, ofO, decide_eq_true hs, guard, ret, TL.join_eq]
theorem sum_le {B : Nat} : ∀ {ys : List Str}, (∀ y ∈ ys, y.length ≤ B) → (ys.map (·.length)).sum ≤ ys.length * B
  | [], _ => by simp
  | y :: r, h => by
    have h1 := h y List.mem_cons_self
    have h2 := sum_le (ys := r) fun z hz => h z (List.mem_cons_of_mem _ hz)
    simp only [List.map_cons, List.sum_cons, List.length_cons, Nat.add_mul, Nat.one_mul]
    omega
theorem join_le {B : Nat} {y : Str} : ∀ {ps : List Str}, (∀ p ∈ ps, p.length ≤ B) → (Str.join y ps).length ≤ ps.length * (B + y.length)
  | [], _ => by
    show (Str.empty : Str).length ≤ _
    exact Nat.zero_le _
  | [p], h => by
    show p.length ≤ _
    have := h p List.mem_cons_self
    simp only [List.length_cons, List.length_nil]
    omega
  | p :: q :: r, h => by
    have h1 := h p List.mem_cons_self
    have h2 := join_le (y := y) (ps := q :: r) fun z hz => h z (List.mem_cons_of_mem _ hz)
    have e : (Str.join y (p :: q :: r)).length = p.length + (y.length + (Str.join y (q :: r)).length) := by
      show (p ++ y ++ Str.join y (q :: r)).length = _
      rw [slen, TL.tl_append, TL.tl_append, List.append_assoc, List.length_append, List.length_append, ← slen, ← slen, ← slen]
    rw [e, List.length_cons, Nat.add_mul, Nat.one_mul]
    omega
theorem join_ok {y : Str} (hy : cOk y) : ∀ {ps : List Str}, (∀ p ∈ ps, cOk p) → cOk (Str.join y ps)
  | [], _ => by
    intro c hc
    cases hc
  | [p], h => h p List.mem_cons_self
  | p :: q :: r, h => by
    have h1 := h p List.mem_cons_self
    have h2 := join_ok hy (ps := q :: r) fun z hz => h z (List.mem_cons_of_mem _ hz)
    intro c hc
    have hc : c ∈ tl (p ++ y ++ Str.join y (q :: r)) := hc
    rw [TL.tl_append, TL.tl_append, List.mem_append, List.mem_append] at hc
    rcases hc with (hc | hc) | hc
    · exact h1 c hc
    · exact hy c hc
    · exact h2 c hc
/-- what keys are, by the numbers -/
def NumsOk (s : Int) (ss : List Int) : Prop := (1 ≤ s ∧ s ≤ 1000000) ∧ ss.length ≤ 41 ∧ ∀ i ∈ ss, 0 ≤ i ∧ i ≤ 1000000000000
theorem ok_sp : cOk " " := by
  have : (tl " ").all (fun c => decide (c < 0x110000)) = true := by decide +kernel
  intro c hc
  exact of_decide_eq_true (List.all_eq_true.mp this c hc)
theorem ok_keys : cOk "keys" := by
  have : (tl "keys").all (fun c => decide (c < 0x110000)) = true := by decide +kernel
  intro c hc
  exact of_decide_eq_true (List.all_eq_true.mp this c hc)
theorem kTl_len {s : Int} {ss : List Int} (h : NumsOk s ss) : ∀ p ∈ kTl s ss, p.length ≤ 13 := by
  obtain ⟨h1, h2, h3⟩ := h
  intro p hp
  unfold kTl at hp
  rcases List.mem_cons.mp hp with rfl | hp
  · decide +kernel
  rcases List.mem_cons.mp hp with rfl | hp
  · exact numS_len (by omega) (by omega)
  obtain ⟨i, hi, rfl⟩ := List.mem_map.mp hp
  exact numS_len (h3 i hi).1 (h3 i hi).2
theorem kTl_ok {s : Int} {ss : List Int} (h : NumsOk s ss) : ∀ p ∈ kTl s ss, cOk p := by
  obtain ⟨h1, h2, h3⟩ := h
  intro p hp
  unfold kTl at hp
  rcases List.mem_cons.mp hp with rfl | hp
  · exact ok_keys
  rcases List.mem_cons.mp hp with rfl | hp
  · exact numS_ok (by omega)
  obtain ⟨i, hi, rfl⟩ := List.mem_map.mp hp
  exact numS_ok (h3 i hi).1
theorem kTl_n {s : Int} {ss : List Int} : (kTl s ss).length = ss.length + 2 := by simp [kTl]
theorem len_sp1 : (" " : Str).length = 1 := by decide +kernel
theorem kT_len {s : Int} {ss : List Int} (h : NumsOk s ss) : (kT s ss).length ≤ 1000 := by
  have := join_le (y := " ") (kTl_len h)
  rw [kTl_n, len_sp1] at this
  have := h.2.1
  unfold kT
  omega
theorem kT_ok {s : Int} {ss : List Int} (h : NumsOk s ss) : cOk (kT s ss) := join_ok ok_sp (kTl_ok h)
theorem fm_ints {ss : List Int} : ((ss.map D.int).filterMap fun d => match d with
    | .int i => some (D.str (numS i))
    | _ => none) = (ss.map numS).map D.str := by
  rw [List.filterMap_map, List.map_map, ← List.filterMap_eq_map]
  rfl
theorem s_ktext (n : Nat) {s : Int} {ss : List Int} {st : Store} {E : Ex → Store → Prop} (h : NumsOk s ss) : Run ((calls G (n + 1)).1 24 [.tup [.int s, .tup (ss.map .int)]]) st (fun d st' => d = .str (kT s ss) ∧ Fx [] st st') E := by
  have hz := sizeL
  refine rd_def [some (.tup [.int s, .tup (ss.map .int)]), none] rfl rfl rfl rfl rfl ?_
  unfold c24
  repeat fail
  refine p_methOk (ok_str (by rw [sm_join]; rfl)) ?_
  repeat fail
  refine p_biop (str_int (by have := h.1; omega) (by have := h.1; omega)) ?_
  repeat fail
  refine ⟨by show (List.map _ _).length ≤ _; have := h.2.1; simp; omega, ?_⟩
  refine (run_eq (lc_pure (g := fun d => match d with
    | .int i => some (D.str (numS i))
    | _ => none) chk_nil fun d hd => ?_)).mpr ?_
  · obtain ⟨i, hi, rfl⟩ := List.mem_map.mp hd
    refine run_to (lcT_run.mpr ?_)
    repeat fail
    refine p_biop (str_int (h.2.2 i hi).1 (h.2.2 i hi).2) ?_
    repeat fail
    exact ⟨rfl, rfl⟩
  rw [fm_ints]
  refine p_binop (add_loc app2_0 app2_1 (by simp; have := h.2.1; omega)) ?_
  repeat fail
  refine p_methD (m_join (ys := kTl s ss) app_at ?_) ?_
  · have h1 := sum_le (kTl_len h)
    rw [kTl_n] at h1
    rw [kTl_n, len_sp1]
    have := h.2.1
    omega
  repeat fail
  exact ⟨rfl, ((Fx.app _ _).apps _).apps _⟩
end MI.P

set_option Elab.async false
set_option linter.all false
set_option maxRecDepth 100000
set_option maxHeartbeats 4000000
/-! PLAIN, part 14: what keys are, twice; the program's keys_text. -/
namespace MI.P
open PySem K82
open TL (tl)
local macro_rules | `(tactic| fail) => `(tactic| first
  | ((with_reducible refine e_var.mpr ?_); refine ⟨_, rfl, ?_⟩)
  | with_reducible refine e_c.mpr ?_
  | with_reducible refine e_gv.mpr ?_
  | with_reducible refine e_bin.mpr ?_
  | with_reducible refine e_cmp.mpr ?_
  | with_reducible refine e_chain.mpr ?_
  | with_reducible refine e_neg.mpr ?_
  | with_reducible refine e_not.mpr ?_
  | with_reducible refine e_and.mpr ?_
  | with_reducible refine e_or.mpr ?_
  | with_reducible refine e_ife.mpr ?_
  | with_reducible refine e_nil.mpr ?_
  | with_reducible refine e_cons.mpr ?_
  | with_reducible refine e_consT.mpr ?_
  | with_reducible refine e_consU.mpr ?_
  | with_reducible refine e_rep.mpr ?_
  | with_reducible refine e_tup.mpr ?_
  | with_reducible refine e_lst.mpr ?_
  | with_reducible refine e_idx.mpr ?_
  | with_reducible refine e_part.mpr ?_
  | with_reducible refine e_sl.mpr ?_
  | with_reducible refine e_attr.mpr ?_
  | with_reducible refine e_call.mpr ?_
  | with_reducible refine e_make.mpr ?_
  | with_reducible refine e_meth.mpr ?_
  | with_reducible refine e_bi.mpr ?_
  | with_reducible refine e_isi.mpr ?_
  | with_reducible refine e_yes.mpr ?_
  | with_reducible refine e_lc.mpr ?_
  | with_reducible refine runS_seq.mpr ?_
  | with_reducible refine t_skip.mpr ?_
  | with_reducible refine t_asg.mpr ?_
  | with_reducible refine t_setf.mpr ?_
  | with_reducible refine t_augf.mpr ?_
  | with_reducible refine t_seti.mpr ?_
  | with_reducible refine t_exp.mpr ?_
  | with_reducible refine t_ite.mpr ?_
  | with_reducible refine t_ret.mpr ?_
  | with_reducible refine t_retn.mpr ?_
  | with_reducible refine t_raise.mpr ?_
  | with_reducible refine t_for.mpr ?_
  | with_reducible refine k_nx ?_
  | with_reducible refine k_rt ?_
  | with_reducible refine k_xx ?_
  | with_reducible refine q_nx ?_
  | with_reducible refine q_rt ?_
  | with_reducible refine q_xx ?_
  | ((with_reducible refine g_isiD ?_); refine p_isiD rfl ?_)
  | ((with_reducible refine g_cmpop ?_); refine p_cmpop rfl ?_)
  | ((with_reducible refine g_binop ?_); refine p_binop rfl ?_)
  | ((with_reducible refine g_consD ?_); refine p_consD rfl ?_)
  | ((with_reducible refine g_biop ?_); refine p_biop rfl ?_)
  | ((with_reducible refine g_idxD ?_); refine p_idxD rfl ?_)
  | ((with_reducible refine g_sliD ?_); refine p_sliD rfl ?_)
  | ((with_reducible refine g_augop ?_); refine p_augop rfl ?_)
  | ((with_reducible refine g_setiD ?_); refine p_setiD rfl ?_)
  | ((with_reducible refine g_srcOf ?_); refine p_srcOf rfl ?_)
  | ((with_reducible refine g_repD ?_); refine p_repD rfl ?_)
  | with_reducible refine b_nm0 ?_
  | ((with_reducible refine b_nm ?h0 ?_); (case h0 => rfl))
  | ((with_reducible refine g_bindT ?_); refine p_bindT rfl ?_)
  | ((with_reducible refine g_itOf ?_); refine p_itOf rfl ?_)
  | ((with_reducible refine e_lam.mpr ?_); refine ⟨_, rfl, ?_⟩)
  | ((with_reducible refine t_aug.mpr ?_); refine ⟨_, rfl, ?_⟩)
  | ((with_reducible refine ex_tup ?h0 ?_); (case h0 => exact Nat.le_of_ble_eq_true rfl))
  | with_reducible refine br_t ?_
  | with_reducible refine br_f ?_
  | with_reducible refine br_nd (fun h => ?_) (fun h => ?_)
  | with_reducible refine br_d (fun h => ?_) (fun h => ?_)
  | ((with_reducible refine br_g ?_); refine br_t ?_)
  | ((with_reducible refine br_g ?_); refine br_f ?_)
  | with_reducible refine br_n (fun h => ?_) (fun h => ?_)
  | with_reducible refine br_b (fun h => ?_) (fun h => ?_)
  | with_reducible refine ⟨_, rfl, ?_⟩)
def allNum : List D → Bool := fun ss => ss.all fun d => isNum d 0 1000000000000
def keysB (k : Nat) : D → Bool
  | .tup [a, b] => isNum a 1 1000000 && (match b with
    | .tup ss => decide (ss.length = k) && allNum ss
    | _ => false)
  | _ => false
/-- a value that may be asked whether it is keys -/
def VK (st : Store) : D → Prop
  | .tup ds => ds.length ≤ 1000 ∧ ∀ e ∈ ds, Vld st e ∧ (match e with
    | .tup es => es.length ≤ 1000 ∧ ∀ x ∈ es, Vld st x
    | _ => True)
  | d => Vld st d
theorem fm_bools {f : D → Bool} {ss : List D} : (ss.filterMap fun d => some (D.bl (f d))) = (ss.map f).map D.bl := by
  rw [fm_some, List.map_map]
  rfl
theorem isi_tup_no {st : Store} {d : D} (hd : Vld st d) (h : ∀ ds, d ≠ .tup ds) : isiD d .tuple st = .ok (.bl false) st := by
  cases d with
  | tup ds => exact absurd rfl (h ds)
  | loc l => obtain ⟨ds, hd⟩ := hd; exact isi_loc hd .tuple (fun c z => by cases z)
  | fn _ => exact hd.elim
  | clo _ _ => exact hd.elim
  | _ => rfl
theorem keysB_no {k : Nat} {d : D} (h : ∀ ds, d ≠ .tup ds) : keysB k d = false := by
  unfold keysB
  split
  · exact absurd rfl (h _)
  · rfl
theorem keysB_two {k : Nat} {ds : List D} (h : ds.length ≠ 2) : keysB k (.tup ds) = false := by
  unfold keysB
  split
  · rename_i e
    injection e with e
    rw [e] at h
    exact absurd rfl h
  · rfl
theorem keysB_b {k : Nat} {a b : D} (h : ∀ ds, b ≠ .tup ds) : keysB k (.tup [a, b]) = false := by
  unfold keysB
  cases b <;> first | exact absurd rfl (h _) | simp
theorem keysB_a {k : Nat} {a b : D} (e : isNum a 1 1000000 = false) : keysB k (.tup [a, b]) = false := by
  show (isNum a 1 1000000 && _) = false
  rw [e]
  rfl
theorem keysB_s {k : Nat} {a : D} {ss : List D} : keysB k (.tup [a, .tup ss]) = (isNum a 1 1000000 && (decide (ss.length = k) && allNum ss)) := rfl
theorem s_iskeys (n k : Nat) {d : D} {st : Store} {E : Ex → Store → Prop} (hk : k ≤ 41) (hd : VK st d) : Run ((calls G (n + 2)).1 1 [.int (k : Int), d]) st (fun r s => r = .bl (keysB k d) ∧ Fx [] st s) E := by
  have hz := sizeL
  refine rd_def [some (.int (k : Int)), some d, none, none, none] rfl rfl rfl rfl rfl ?_
  unfold c1
  repeat fail
  by_cases ht : ∃ ds, d = .tup ds
  rotate_left
  · have ht : ∀ ds, d ≠ .tup ds := fun ds z => ht ⟨ds, z⟩
    have hv : Vld st d := by cases d <;> first | exact hd | exact absurd rfl (ht _)
    refine p_isiD (isi_tup_no hv ht) ?_
    repeat fail
    exact ⟨by rw [keysB_no ht], Fx.refl _⟩
  obtain ⟨ds, rfl⟩ := ht
  refine p_isiD rfl ?_
  repeat fail
  · rename_i c
    repeat fail
    exact ⟨by rw [keysB_two (fun z => c (by rw [z]; rfl))], Fx.refl _⟩
  · rename_i c
    have c : ds.length = 2 := by
      have c : ((ds.length : Nat) : Int) = 2 := c
      omega
    obtain ⟨a, b, rfl⟩ : ∃ a b, ds = [a, b] := by
      match ds, c with
      | [a, b], _ => exact ⟨a, b, rfl⟩
    obtain ⟨hva, _⟩ := hd.2 a (by simp)
    obtain ⟨hvb, hb⟩ := hd.2 b (by simp)
    repeat fail
    refine (run_eq (s_whole n hva)).mpr ?_
    cases ea : isNum a 1 1000000 with
    | false =>
      repeat fail
      exact ⟨by rw [keysB_a ea], Fx.refl _⟩
    | true =>
      repeat fail
      by_cases ht : ∃ ss, b = .tup ss
      rotate_left
      · have ht : ∀ ds, b ≠ .tup ds := fun ds z => ht ⟨ds, z⟩
        refine p_isiD (isi_tup_no hvb ht) ?_
        repeat fail
        exact ⟨by rw [keysB_b ht], Fx.refl _⟩
      obtain ⟨ss, rfl⟩ := ht
      refine p_isiD rfl ?_
      repeat fail
      · rename_i c
        repeat fail
        refine ⟨?_, Fx.refl _⟩
        have c : ¬ ((ss.length : Nat) : Int) = (k : Int) := c
        rw [keysB_s, decide_eq_false (p := ss.length = k) (by omega), ea]
        rfl
      · rename_i c
        have c : ((ss.length : Nat) : Int) = (k : Int) := c
        repeat fail
        refine ⟨by show ss.length ≤ _; omega, ?_⟩
        refine (run_eq (lc_pure (g := fun d => some (D.bl (isNum d 0 1000000000000))) chk_nil fun d hd => ?_)).mpr ?_
        · refine run_to (lcT_run.mpr ?_)
          repeat fail
          refine (run_eq (s_whole n (hb.2 d hd))).mpr ?_
          repeat fail
          exact ⟨rfl, rfl⟩
        rw [fm_bools]
        repeat fail
        refine p_biop (all_loc app_at) ?_
        repeat fail
        refine ⟨?_, Fx.app _ _⟩
        rw [keysB_s, decide_eq_true (p := ss.length = k) (by omega), ea]
        unfold allNum
        simp [List.all_map, Function.comp_def]
theorem e6 : ((10 : Int) ^ Int.toNat 6) = 1000000 := by decide
theorem e12 : ((10 : Int) ^ Int.toNat 12) = 1000000000000 := by decide
theorem fm_not {f : D → Bool} : ∀ {ss : List D}, (ss.filterMap fun d => if f d = true then none else some d).isEmpty = ss.all f
  | [] => rfl
  | d :: r => by
    rw [List.filterMap_cons, List.all_cons]
    cases e : f d with
    | true =>
      simp only [if_true, Bool.true_and]
      exact fm_not
    | false => rfl
theorem s_pair (n k : Nat) {d : D} {st : Store} {E : Ex → Store → Prop} (hk : k ≤ 41) (hd : VK st d) (hF : ∀ a ss, d = .tup [a, .tup ss] → ∀ x ∈ ss, FlatD x) : Run ((calls G (n + 3)).1 25 [.int (k : Int), d]) st (fun r s => r = .bl (keysB k d) ∧ Fx [] st s) E := by
  have hz := sizeL
  refine rd_def [some (.int (k : Int)), some d, none] rfl rfl rfl rfl rfl ?_
  unfold c25
  repeat fail
  by_cases ht : ∃ ds, d = .tup ds
  rotate_left
  · have ht : ∀ ds, d ≠ .tup ds := fun ds z => ht ⟨ds, z⟩
    have hv : Vld st d := by cases d <;> first | exact hd | exact absurd rfl (ht _)
    refine p_isiD (isi_tup_no hv ht) ?_
    repeat fail
    exact ⟨by rw [keysB_no ht], Fx.refl _⟩
  obtain ⟨ds, rfl⟩ := ht
  refine p_isiD rfl ?_
  repeat fail
  · rename_i c
    repeat fail
    exact ⟨by rw [keysB_two (fun z => c (by rw [z]; rfl))], Fx.refl _⟩
  · rename_i c
    have c : ds.length = 2 := by
      have c : ((ds.length : Nat) : Int) = 2 := c
      omega
    obtain ⟨a, b, rfl⟩ : ∃ a b, ds = [a, b] := by
      match ds, c with
      | [a, b], _ => exact ⟨a, b, rfl⟩
    obtain ⟨hva, _⟩ := hd.2 a (by simp)
    obtain ⟨hvb, hb⟩ := hd.2 b (by simp)
    repeat fail
    rw [e6]
    refine (run_eq (s_isnum n hva)).mpr ?_
    cases ea : isNum a 1 1000000 with
    | false =>
      repeat fail
      exact ⟨by rw [keysB_a ea], Fx.refl _⟩
    | true =>
      repeat fail
      by_cases ht : ∃ ss, b = .tup ss
      rotate_left
      · have ht : ∀ ds, b ≠ .tup ds := fun ds z => ht ⟨ds, z⟩
        refine p_isiD (isi_tup_no hvb ht) ?_
        repeat fail
        exact ⟨by rw [keysB_b ht], Fx.refl _⟩
      obtain ⟨ss, rfl⟩ := ht
      have hF := hF a ss rfl
      refine p_isiD rfl ?_
      repeat fail
      · rename_i c
        repeat fail
        refine ⟨?_, Fx.refl _⟩
        have c : ¬ ((ss.length : Nat) : Int) = (k : Int) := c
        rw [keysB_s, decide_eq_false (p := ss.length = k) (by omega), ea]
        rfl
      · rename_i c
        have c : ((ss.length : Nat) : Int) = (k : Int) := c
        repeat fail
        refine ⟨by show ss.length ≤ _; omega, ?_⟩
        refine (run_eq (lc_pure (g := fun d => if isNum d 0 1000000000000 = true then none else some d) chk_nil fun d hd => ?_)).mpr ?_
        · refine run_to (lcT_run.mpr ?_)
          repeat fail
          rw [e12]
          refine (run_eq (s_isnum n (hb.2 d hd))).mpr ?_
          repeat fail
          · rename_i c
            rw [c]
            exact ⟨rfl, rfl⟩
          · rename_i c
            rw [c]
            exact ⟨rfl, rfl⟩
        repeat fail
        refine p_cmpop (r_eqn (.inl app2_0) app2_1 fun x hx => ?_) ?_
        · obtain ⟨y, hy, e⟩ := List.mem_filterMap.mp hx
          split at e
          · cases e
          · injection e with e
            rw [← e]
            exact hF y hy
        repeat fail
        refine ⟨?_, (Fx.app _ _).apps _⟩
        rw [keysB_s, decide_eq_true (p := ss.length = k) (by omega), ea]
        show D.bl (List.isEmpty (List.filterMap _ ss)) = _
        rw [fm_not]
        rfl
theorem keysB_form {k : Nat} {d : D} (hk : k ≤ 41) (h : keysB k d = true) : ∃ s ss, d = .tup [.int s, .tup (ss.map D.int)] ∧ ss.length = k ∧ NumsOk s ss := by
  unfold keysB at h
  split at h
  · rename_i a b
    rw [Bool.and_eq_true] at h
    obtain ⟨h1, h2⟩ := h
    split at h2
    · rename_i ss
      rw [Bool.and_eq_true, decide_eq_true_eq] at h2
      obtain ⟨h2, h3⟩ := h2
      unfold isNum at h1
      split at h1
      · rename_i i
        have hs : ∀ ss : List D, allNum ss = true → ∃ is : List Int, ss = is.map D.int ∧ ∀ i ∈ is, 0 ≤ i ∧ i ≤ 1000000000000 := by
          intro ss
          induction ss with
          | nil => exact fun _ => ⟨[], rfl, fun i hi => by cases hi⟩
          | cons x r ih =>
            intro h
            unfold allNum at h ih
            rw [List.all_cons, Bool.and_eq_true] at h
            obtain ⟨is, e, g⟩ := ih h.2
            have hx := h.1
            unfold isNum at hx
            split at hx
            · rename_i j
              rw [Bool.and_eq_true, decide_eq_true_eq, decide_eq_true_eq] at hx
              refine ⟨j :: is, by rw [e]; rfl, fun i hi => ?_⟩
              rcases List.mem_cons.mp hi with rfl | hi
              · exact hx
              · exact g i hi
            · cases hx
        obtain ⟨is, e, g⟩ := hs ss h3
        rw [Bool.and_eq_true, decide_eq_true_eq, decide_eq_true_eq] at h1
        refine ⟨i, is, by rw [e], by rw [← h2, e, List.length_map], h1, ?_, g⟩
        rw [e, List.length_map] at h2
        omega
      · cases h1
    · cases h2
  · cases h
theorem s_keystext (n k : Nat) {d : D} {st : Store} {Q : D → Store → Prop} {E : Ex → Store → Prop} (hk : k ≤ 40) (hd : VK st d)
    (k1 : ∀ s ss st', d = .tup [.int s, .tup (ss.map D.int)] → keysB k d = true → NumsOk s ss → Fx [] st st' → Q (.str (kT s ss)) st') (k2 : ∀ st', keysB k d = false → Fx [] st st' → E ⟨3, .int 0⟩ st') : Run ((calls G (n + 3)).1 6 [.int (k : Int), d]) st Q E := by
  have hz := sizeL
  refine rd_def [some (.int (k : Int)), some d, none] rfl rfl rfl rfl rfl ?_
  unfold c6
  repeat fail
  refine s_asked n vld_int (fun _ => ?_) (fun z => by rw [num_ok hk] at z; cases z)
  repeat fail
  refine (s_iskeys n k (by omega) hd).to fun r s0 h => ?_
  obtain ⟨rfl, f0⟩ := h
  cases e : keysB k d with
  | false =>
    repeat fail
    exact k2 _ e f0
  | true =>
    obtain ⟨s, ss, rfl, hl, h⟩ := keysB_form (by omega) e
    repeat fail
    refine p_methOk (ok_str (by rw [sm_join]; rfl)) ?_
    repeat fail
    refine p_biop (str_int (by have := h.1; omega) (by have := h.1; omega)) ?_
    repeat fail
    refine ⟨by show (List.map _ _).length ≤ _; have := h.2.1; simp; omega, ?_⟩
    refine (run_eq (lc_pure (g := fun d => match d with
      | .int i => some (D.str (numS i))
      | _ => none) chk_nil fun d hd => ?_)).mpr ?_
    · obtain ⟨i, hi, rfl⟩ := List.mem_map.mp hd
      refine run_to (lcT_run.mpr ?_)
      repeat fail
      refine p_biop (str_int (h.2.2 i hi).1 (h.2.2 i hi).2) ?_
      repeat fail
      exact ⟨rfl, rfl⟩
    have ef : (List.filterMap (fun d => match d with
      | D.int i => some (D.str (numS i))
      | _ => none) (List.map D.int ss, ([] : List (Nat × List D))).fst) = (ss.map numS).map D.str := fm_ints
    rw [ef]
    refine p_binop (add_loc app2_0 app2_1 (by simp; have := h.2.1; omega)) ?_
    repeat fail
    refine p_methD (m_join (ys := kTl s ss) app_at ?_) ?_
    · have h1 := sum_le (kTl_len h)
      rw [kTl_n] at h1
      rw [kTl_n, len_sp1]
      have := h.2.1
      omega
    repeat fail
    exact k1 s ss _ rfl e h (((f0.apps _).apps _).apps _)
end MI.P

set_option Elab.async false
set_option linter.all false
set_option maxRecDepth 100000
set_option maxHeartbeats 4000000
/-! PLAIN, part 15: what is heard, whether it is the same. -/
namespace MI.P
open PySem K82
open TL (tl)
local macro_rules | `(tactic| fail) => `(tactic| first
  | ((with_reducible refine e_var.mpr ?_); refine ⟨_, rfl, ?_⟩)
  | with_reducible refine e_c.mpr ?_
  | with_reducible refine e_gv.mpr ?_
  | with_reducible refine e_bin.mpr ?_
  | with_reducible refine e_cmp.mpr ?_
  | with_reducible refine e_chain.mpr ?_
  | with_reducible refine e_neg.mpr ?_
  | with_reducible refine e_not.mpr ?_
  | with_reducible refine e_and.mpr ?_
  | with_reducible refine e_or.mpr ?_
  | with_reducible refine e_ife.mpr ?_
  | with_reducible refine e_nil.mpr ?_
  | with_reducible refine e_cons.mpr ?_
  | with_reducible refine e_consT.mpr ?_
  | with_reducible refine e_consU.mpr ?_
  | with_reducible refine e_rep.mpr ?_
  | with_reducible refine e_tup.mpr ?_
  | with_reducible refine e_lst.mpr ?_
  | with_reducible refine e_idx.mpr ?_
  | with_reducible refine e_part.mpr ?_
  | with_reducible refine e_sl.mpr ?_
  | with_reducible refine e_attr.mpr ?_
  | with_reducible refine e_call.mpr ?_
  | with_reducible refine e_make.mpr ?_
  | with_reducible refine e_meth.mpr ?_
  | with_reducible refine e_bi.mpr ?_
  | with_reducible refine e_isi.mpr ?_
  | with_reducible refine e_yes.mpr ?_
  | with_reducible refine e_lc.mpr ?_
  | with_reducible refine runS_seq.mpr ?_
  | with_reducible refine t_skip.mpr ?_
  | with_reducible refine t_asg.mpr ?_
  | with_reducible refine t_setf.mpr ?_
  | with_reducible refine t_augf.mpr ?_
  | with_reducible refine t_seti.mpr ?_
  | with_reducible refine t_exp.mpr ?_
  | with_reducible refine t_ite.mpr ?_
  | with_reducible refine t_ret.mpr ?_
  | with_reducible refine t_retn.mpr ?_
  | with_reducible refine t_raise.mpr ?_
  | with_reducible refine t_for.mpr ?_
  | with_reducible refine k_nx ?_
  | with_reducible refine k_rt ?_
  | with_reducible refine k_xx ?_
  | with_reducible refine q_nx ?_
  | with_reducible refine q_rt ?_
  | with_reducible refine q_xx ?_
  | ((with_reducible refine g_isiD ?_); refine p_isiD rfl ?_)
  | ((with_reducible refine g_cmpop ?_); refine p_cmpop rfl ?_)
  | ((with_reducible refine g_binop ?_); refine p_binop rfl ?_)
  | ((with_reducible refine g_consD ?_); refine p_consD rfl ?_)
  | ((with_reducible refine g_biop ?_); refine p_biop rfl ?_)
  | ((with_reducible refine g_idxD ?_); refine p_idxD rfl ?_)
  | ((with_reducible refine g_sliD ?_); refine p_sliD rfl ?_)
  | ((with_reducible refine g_augop ?_); refine p_augop rfl ?_)
  | ((with_reducible refine g_setiD ?_); refine p_setiD rfl ?_)
  | ((with_reducible refine g_srcOf ?_); refine p_srcOf rfl ?_)
  | ((with_reducible refine g_repD ?_); refine p_repD rfl ?_)
  | with_reducible refine b_nm0 ?_
  | ((with_reducible refine b_nm ?h0 ?_); (case h0 => rfl))
  | ((with_reducible refine g_bindT ?_); refine p_bindT rfl ?_)
  | ((with_reducible refine g_itOf ?_); refine p_itOf rfl ?_)
  | ((with_reducible refine e_lam.mpr ?_); refine ⟨_, rfl, ?_⟩)
  | ((with_reducible refine t_aug.mpr ?_); refine ⟨_, rfl, ?_⟩)
  | ((with_reducible refine ex_tup ?h0 ?_); (case h0 => exact Nat.le_of_ble_eq_true rfl))
  | with_reducible refine br_t ?_
  | with_reducible refine br_f ?_
  | with_reducible refine br_nd (fun h => ?_) (fun h => ?_)
  | with_reducible refine br_d (fun h => ?_) (fun h => ?_)
  | ((with_reducible refine br_g ?_); refine br_t ?_)
  | ((with_reducible refine br_g ?_); refine br_f ?_)
  | with_reducible refine br_n (fun h => ?_) (fun h => ?_)
  | with_reducible refine br_b (fun h => ?_) (fun h => ?_)
  | with_reducible refine ⟨_, rfl, ?_⟩)
def nameOf (k : Nat) : Option Str := match k with
  | 0 => some "BadText"
  | 1 => some "TooMany"
  | 2 => some "BadMany"
  | 3 => some "BadKeys"
  | 4 => some "WrongLine"
  | _ => none
def rows5 : List (Nat × List (Str × Bool)) := [(0, rowOf "BadText"), (1, rowOf "TooMany"), (2, rowOf "BadMany"), (3, rowOf "BadKeys"), (4, rowOf "WrongLine")]
theorem row_filter {k : Nat} {w : Str} (h : nameOf k = some w) : ∃ qs, rows5.lookup k = some qs ∧ qs.filter (·.2) = [(w, true)] ∧ w.length ≤ 20 := by
  match k, h with
  | 0, h => injection h with h; subst h; exact ⟨_, rfl, by decide +kernel, by decide +kernel⟩
  | 1, h => injection h with h; subst h; exact ⟨_, rfl, by decide +kernel, by decide +kernel⟩
  | 2, h => injection h with h; subst h; exact ⟨_, rfl, by decide +kernel, by decide +kernel⟩
  | 3, h => injection h with h; subst h; exact ⟨_, rfl, by decide +kernel, by decide +kernel⟩
  | 4, h => injection h with h; subst h; exact ⟨_, rfl, by decide +kernel, by decide +kernel⟩
theorem heard_ex {x : Ex} {w : Str} {st : Store} (h : nameOf x.cls = some w) : ∃ st', heardD rows5 (.ex x st) = .ok (.tup [.str w, x.what]) st' ∧ Fx [] st st' := by
  obtain ⟨qs, h1, h2, h3⟩ := row_filter h
  refine ⟨st ++ [.lst (qs.map fun q => .tup [.str q.1, .bl q.2]), .lst ((qs.filter (·.2)).map fun q => .str q.1)], ?_, Fx.app _ _⟩
  have e1 : (st ++ [Ob.lst (qs.map fun q => .tup [.str q.1, .bl q.2]), Ob.lst ((qs.filter (·.2)).map fun q => .str q.1)])[st.length + 1]? = some (.lst ([w].map D.str)) := by
    rw [h2]
    simp
  generalize hS : (st ++ [Ob.lst (qs.map fun q => D.tup [.str q.1, .bl q.2]), Ob.lst ((qs.filter (·.2)).map fun q => D.str q.1)]) = S at e1 ⊢
  have e2 : strM .join " " [.loc (st.length + 1)] S = .ok (.str w) S := by
    show bnd (seqOf (.loc (st.length + 1))) (fun ds => bnd (ofO (strsOf ds)) fun ys => bnd (guard (decide ((ys.map (·.length)).sum + ys.length * (" " : Str).length ≤ 16777216))) fun _ => ret (D.str (PySem.Txt.join " " ys))) S = _
    have e : seqOf (.loc (st.length + 1)) S = .ok ([w].map D.str) S := by
      unfold seqOf
      simp only [e1]
    have e3 : decide ((([w] : List Str).map (·.length)).sum + ([w] : List Str).length * (" " : Str).length ≤ 16777216) = true := by
      rw [len_sp1]
      simp
      omega
    unfold bnd
    simp only [e, strs_of, ofO, e3, guard, ret, TL.join_eq]
    rfl
  unfold heardD
  simp only [h1]
  rw [hS, e2]
/-- a closure is run: what comes of it is told -/
theorem s_heard (n k : Nat) {ls : List Nat} {st : Store} {Q : D → Store → Prop} {E : Ex → Store → Prop} (h : Run ((calls G (n + 1)).2 k ls []) st (fun d s => Q (.tup [.str "told", d]) s) fun x s => ∃ w, nameOf x.cls = some w ∧ ∀ s', Fx [] s s' → Q (.tup [.str w, x.what]) s') : Run ((calls G (n + 2)).1 10 [.clo k ls]) st Q E := by
  have e : (calls G (n + 2)).1 10 [.clo k ls] st = heardD rows5 ((calls G (n + 1)).2 k ls [] st) := rfl
  unfold Run at h ⊢
  rw [e]
  cases r : (calls G (n + 1)).2 k ls [] st with
  | ok d s => rw [r] at h; exact h
  | no => rw [r] at h; exact h
  | ex x s =>
    rw [r] at h
    obtain ⟨w, h1, h2⟩ := h
    obtain ⟨s', e1, f⟩ := heard_ex (st := s) h1
    rw [e1]
    exact h2 s' f
theorem s_lam (n k : Nat) {L : Lm} {ls : List Nat} {ds : List D} {body : CE} {ρ : List (Option D)} {st : Store} {Q : D → Store → Prop} {E : Ex → Store → Prop} (hL : G.lams[k]? = some L) (ha : L.arity = 0) (hn : ls.length = L.nfree) (hc : cellsAt st ls = some ds) (hb : L.body = body) (hρ : ds.map some = ρ)
    (h : Run (ev G (calls G n).1 (calls G n).2 body ⟨ρ, []⟩) st Q E) : Run ((calls G (n + 1)).2 k ls []) st Q E := by
  have e : (calls G (n + 1)).2 k ls [] st = ev G (calls G n).1 (calls G n).2 body ⟨ρ, []⟩ st := by
    have e1 : (calls G (n + 1)).2 k ls [] = runLam G (calls G n).1 (calls G n).2 L ls [] := by
      simp only [calls, hL]
    rw [e1]
    unfold runLam
    rw [if_pos ⟨ha.symm, hn⟩, hc, hb, ← hρ]
    rfl
  unfold Run at h ⊢
  rw [e]
  exact h
/-- data that may be compared sign by sign -/
def Dat : Nat → D → Prop
  | _, .non => True
  | _, .bl _ => True
  | _, .int _ => True
  | _, .str _ => True
  | n + 1, .tup ds => ds.length < 1000 ∧ ∀ d ∈ ds, Dat n d
  | _, _ => False
theorem same_run (n : Nat) (l : Bool) {x y : D} {ds : List D} {st : Store} (hx : biop .len [x] st = .ok (.int ds.length) st) (hy : biop .len [y] st = .ok (.int ds.length) st)
    (ix : ∀ (i : Nat) d, ds[i]? = some d → idxD x (.int (i : Int)) st = .ok d st) (iy : ∀ (i : Nat) d, ds[i]? = some d → idxD y (.int (i : Int)) st = .ok d st)
    (hl : ds.length < 1000) (hs : ∀ d ∈ ds, (calls G (n + 1)).1 9 [d, d] st = .ok (.bl true) st)
    (t1 : isNonB y = false) (t2 : isiD y .bool st = .ok (.bl false) st) (t3 : isiD y .int st = .ok (.bl false) st) (t4 : isiD y .str st = .ok (.bl false) st) (t5 : isiD y .tuple st = .ok (.bl (!l)) st) (t6 : isiD x .tuple st = .ok (.bl (!l)) st) (t7 : isiD y .list st = .ok (.bl l) st) (t8 : isiD x .list st = .ok (.bl l) st) :
    (calls G (n + 2)).1 9 [x, y] st = .ok (.bl true) st := by
  refine run_to (rd_def [some x, some y, none] rfl rfl rfl rfl rfl ?_)
  have loop : ∀ {R : Out → Store → Prop} {body : CS}, body = (.seq (.ite (.not (.call "_law_same" 9 (.cons (.idx (.var 0) (.var 2)) (.cons (.idx (.var 1) (.var 2)) .nil)))) (.seq (.ret (.c (.bl false))) .skip) .skip) .skip) → (∀ z, R (.nx ⟨[some x, some y, z], []⟩) st) → RunS (forGo (chk []) (fun d fr1 => exS (bindT (.nm 2) d fr1) fr1 fun fr2 => evs G (calls G (n + 1)).1 (calls G (n + 1)).2 body fr2) ((List.range' 0 ds.length).map fun (k : Nat) => D.int (k : Int)) ⟨[some x, some y, none], []⟩) st R := by
    rintro R body rfl hR
    refine for_run (fun r fr s => ∃ i z, r = ((List.range' i (ds.length - i)).map fun (k : Nat) => D.int (k : Int)) ∧ i ≤ ds.length ∧ fr = ⟨[some x, some y, z], []⟩ ∧ s = st) (fun _ _ _ _ => rfl) ?_ ?_ _ _ _ ⟨0, none, rfl, Nat.zero_le _, rfl, rfl⟩
    · rintro d r fr s ⟨i, z, e, hi, rfl, rfl⟩
      have hlt : i < ds.length := by
        rcases Nat.lt_or_ge i ds.length with z | z
        · exact z
        · rw [show ds.length - i = 0 by omega] at e
          cases e
      rw [show ds.length - i = (ds.length - (i + 1)) + 1 by omega, List.range'_succ, List.map_cons] at e
      obtain ⟨rfl, rfl⟩ := List.cons.inj e
      have hg : ds[i]? = some ds[i] := List.getElem?_eq_getElem hlt
      refine runS_ex.mpr ?_
      repeat fail
      refine p_idxD (ix i _ hg) ?_
      repeat fail
      refine p_idxD (iy i _ hg) ?_
      repeat fail
      refine (run_eq (hs _ (List.getElem_mem hlt))).mpr ?_
      repeat fail
      exact ⟨i + 1, _, rfl, by omega, rfl, rfl⟩
    · rintro fr s ⟨i, z, e, hi, rfl, rfl⟩
      exact hR _
  have hi := itr (n := ds.length) (y := .bl true) (st := st) (by omega)
  unfold c9
  cases l with
  | true =>
    have t5 : isiD y .tuple st = .ok (.bl false) st := t5
    have t6 : isiD x .tuple st = .ok (.bl false) st := t6
    repeat fail
    · rename_i h
      rw [t1] at h
      cases h
    repeat fail
    refine p_isiD t2 ?_
    repeat fail
    refine p_isiD t3 ?_
    repeat fail
    refine p_isiD t4 ?_
    repeat fail
    refine p_isiD t5 ?_
    repeat fail
    refine p_isiD t7 ?_
    repeat fail
    refine p_isiD t8 ?_
    repeat fail
    refine p_biop hx ?_
    repeat fail
    refine p_biop hy ?_
    repeat fail
    · rename_i h
      exact absurd rfl h
    repeat fail
    refine p_biop hy ?_
    repeat fail
    with_reducible refine p_itOf hi ?_
    refine loop rfl fun z => ?_
    repeat fail
    exact ⟨rfl, rfl⟩
  | false =>
    have t5 : isiD y .tuple st = .ok (.bl true) st := t5
    have t6 : isiD x .tuple st = .ok (.bl true) st := t6
    repeat fail
    · rename_i h
      rw [t1] at h
      cases h
    repeat fail
    refine p_isiD t2 ?_
    repeat fail
    refine p_isiD t3 ?_
    repeat fail
    refine p_isiD t4 ?_
    repeat fail
    refine p_isiD t5 ?_
    repeat fail
    refine p_isiD t6 ?_
    repeat fail
    refine p_isiD t7 ?_
    repeat fail
    refine p_biop hx ?_
    repeat fail
    refine p_biop hy ?_
    repeat fail
    · rename_i h
      exact absurd rfl h
    repeat fail
    refine p_biop hy ?_
    repeat fail
    with_reducible refine p_itOf hi ?_
    refine loop rfl fun z => ?_
    repeat fail
    exact ⟨rfl, rfl⟩
theorem same_self (n : Nat) : ∀ (m : Nat) {d : D} {st : Store}, Dat m d → (calls G (n + m + 2)).1 9 [d, d] st = .ok (.bl true) st
  | m, .non, st, _ => by
    refine run_to (rd_def [some .non, some .non, none] rfl rfl rfl rfl rfl ?_)
    unfold c9
    repeat fail
    exact ⟨rfl, rfl⟩
  | m, .bl b, st, _ => by
    refine run_to (rd_def [some (.bl b), some (.bl b), none] rfl rfl rfl rfl rfl ?_)
    unfold c9
    cases b <;> (repeat fail) <;> exact ⟨rfl, rfl⟩
  | m, .int i, st, _ => by
    refine run_to (rd_def [some (.int i), some (.int i), none] rfl rfl rfl rfl rfl ?_)
    unfold c9
    repeat fail
    refine (run_eq (s_iswhole (n + m) vld_int)).mpr ?_
    repeat fail
    exact ⟨by simp, rfl⟩
  | m, .str i, st, _ => by
    refine run_to (rd_def [some (.str i), some (.str i), none] rfl rfl rfl rfl rfl ?_)
    unfold c9
    repeat fail
    exact ⟨by simp, rfl⟩
  | m + 1, .tup ds, st, h => by
    refine same_run (n + m + 1) false (ds := ds) rfl rfl (fun i d e => idx_tup (atN e)) (fun i d e => idx_tup (atN e)) h.1 (fun d hd => same_self n m (h.2 d hd)) rfl rfl rfl rfl rfl rfl rfl rfl
  | 0, .tup ds, st, h => h.elim
  | 0, .loc l, st, h => h.elim
  | m + 1, .loc l, st, h => h.elim
  | 0, .fn l, st, h => h.elim
  | m + 1, .fn l, st, h => h.elim
  | 0, .clo l _, st, h => h.elim
  | m + 1, .clo l _, st, h => h.elim
theorem same_lists (n m : Nat) {k l : Nat} {ds : List D} {st : Store} (h1 : st[k]? = some (.lst ds)) (h2 : st[l]? = some (.lst ds)) (hl : ds.length < 1000) (h : ∀ d ∈ ds, Dat m d) : (calls G (n + m + 3)).1 9 [.loc k, .loc l] st = .ok (.bl true) st :=
  same_run (n + m + 1) true (ds := ds) (len_loc (.inl h1)) (len_loc (.inl h2)) (fun i d e => idx_loc (.inl h1) (atN e)) (fun i d e => idx_loc (.inl h2) (atN e)) hl (fun d hd => same_self n m (h d hd)) rfl
    (isi_loc (.inl h2) .bool fun c z => by cases z) (isi_loc (.inl h2) .int fun c z => by cases z) (isi_loc (.inl h2) .str fun c z => by cases z) (isi_loc (.inl h2) .tuple fun c z => by cases z) (isi_loc (.inl h1) .tuple fun c z => by cases z) (isi_loc (.inl h2) .list fun c z => by cases z) (isi_loc (.inl h1) .list fun c z => by cases z)
end MI.P

set_option Elab.async false
set_option linter.all false
set_option maxRecDepth 100000
set_option maxHeartbeats 4000000
/-! PLAIN, part 16: the jar. -/
namespace MI.P
open PySem K82
open TL (tl)
local macro_rules | `(tactic| fail) => `(tactic| first
  | ((with_reducible refine e_var.mpr ?_); refine ⟨_, rfl, ?_⟩)
  | with_reducible refine e_c.mpr ?_
  | with_reducible refine e_gv.mpr ?_
  | with_reducible refine e_bin.mpr ?_
  | with_reducible refine e_cmp.mpr ?_
  | with_reducible refine e_chain.mpr ?_
  | with_reducible refine e_neg.mpr ?_
  | with_reducible refine e_not.mpr ?_
  | with_reducible refine e_and.mpr ?_
  | with_reducible refine e_or.mpr ?_
  | with_reducible refine e_ife.mpr ?_
  | with_reducible refine e_nil.mpr ?_
  | with_reducible refine e_cons.mpr ?_
  | with_reducible refine e_consT.mpr ?_
  | with_reducible refine e_consU.mpr ?_
  | with_reducible refine e_rep.mpr ?_
  | with_reducible refine e_tup.mpr ?_
  | with_reducible refine e_lst.mpr ?_
  | with_reducible refine e_idx.mpr ?_
  | with_reducible refine e_part.mpr ?_
  | with_reducible refine e_sl.mpr ?_
  | with_reducible refine e_attr.mpr ?_
  | with_reducible refine e_call.mpr ?_
  | with_reducible refine e_make.mpr ?_
  | with_reducible refine e_meth.mpr ?_
  | with_reducible refine e_bi.mpr ?_
  | with_reducible refine e_isi.mpr ?_
  | with_reducible refine e_yes.mpr ?_
  | with_reducible refine e_lc.mpr ?_
  | with_reducible refine runS_seq.mpr ?_
  | with_reducible refine t_skip.mpr ?_
  | with_reducible refine t_asg.mpr ?_
  | with_reducible refine t_setf.mpr ?_
  | with_reducible refine t_augf.mpr ?_
  | with_reducible refine t_seti.mpr ?_
  | with_reducible refine t_exp.mpr ?_
  | with_reducible refine t_ite.mpr ?_
  | with_reducible refine t_ret.mpr ?_
  | with_reducible refine t_retn.mpr ?_
  | with_reducible refine t_raise.mpr ?_
  | with_reducible refine t_for.mpr ?_
  | with_reducible refine k_nx ?_
  | with_reducible refine k_rt ?_
  | with_reducible refine k_xx ?_
  | with_reducible refine q_nx ?_
  | with_reducible refine q_rt ?_
  | with_reducible refine q_xx ?_
  | ((with_reducible refine g_isiD ?_); refine p_isiD rfl ?_)
  | ((with_reducible refine g_cmpop ?_); refine p_cmpop rfl ?_)
  | ((with_reducible refine g_binop ?_); refine p_binop rfl ?_)
  | ((with_reducible refine g_consD ?_); refine p_consD rfl ?_)
  | ((with_reducible refine g_biop ?_); refine p_biop rfl ?_)
  | ((with_reducible refine g_idxD ?_); refine p_idxD rfl ?_)
  | ((with_reducible refine g_sliD ?_); refine p_sliD rfl ?_)
  | ((with_reducible refine g_augop ?_); refine p_augop rfl ?_)
  | ((with_reducible refine g_setiD ?_); refine p_setiD rfl ?_)
  | ((with_reducible refine g_srcOf ?_); refine p_srcOf rfl ?_)
  | ((with_reducible refine g_repD ?_); refine p_repD rfl ?_)
  | with_reducible refine b_nm0 ?_
  | ((with_reducible refine b_nm ?h0 ?_); (case h0 => rfl))
  | ((with_reducible refine g_bindT ?_); refine p_bindT rfl ?_)
  | ((with_reducible refine g_itOf ?_); refine p_itOf rfl ?_)
  | ((with_reducible refine e_lam.mpr ?_); refine ⟨_, rfl, ?_⟩)
  | ((with_reducible refine t_aug.mpr ?_); refine ⟨_, rfl, ?_⟩)
  | ((with_reducible refine ex_tup ?h0 ?_); (case h0 => exact Nat.le_of_ble_eq_true rfl))
  | with_reducible refine br_t ?_
  | with_reducible refine br_f ?_
  | with_reducible refine br_nd (fun h => ?_) (fun h => ?_)
  | with_reducible refine br_d (fun h => ?_) (fun h => ?_)
  | ((with_reducible refine br_g ?_); refine br_t ?_)
  | ((with_reducible refine br_g ?_); refine br_f ?_)
  | with_reducible refine br_n (fun h => ?_) (fun h => ?_)
  | with_reducible refine br_b (fun h => ?_) (fun h => ?_)
  | with_reducible refine ⟨_, rfl, ?_⟩)
/-- a jar: a list of two numbers -/
def J (st : Store) (j : Nat) : Prop := ∃ a b : Int, st[j]? = some (.lst [.int a, .int b])
theorem J.fx {S : List Nat} {st st' : Store} {j : Nat} (h : J st j) (f : Fx S st st') (hs : j ∉ S) : J st' j := by
  obtain ⟨a, b, h⟩ := h
  exact ⟨a, b, f.get h hs⟩
theorem seti_at {l i : Nat} {xs : List D} {k : Int} {d : D} {st : Store} (h : st[l]? = some (.lst xs)) (e : L2.ixN xs.length k = some i) : setiD (.loc l) (.int k) d st = .ok () (st.set l (.lst (xs.set i d))) := by
  unfold setiD
  simp only [h, e]
theorem fdiv_ok {i t : Int} {st : Store} (h0 : 0 < t) (h1 : t < 2 ^ 64) : binop .fdiv (.int i) (.int t) st = .ok (.int (i / t)) st := by
  show bnd (guard (decide (0 < t) && decide (t < 2 ^ 64))) (fun _ => ret (D.int (i / t))) st = _
  rw [decide_eq_true h0, decide_eq_true h1]
  rfl
theorem mod_ok {i t : Int} {st : Store} (h0 : 0 < t) : binop .mod (.int i) (.int t) st = .ok (.int (i % t)) st := by
  show bnd (guard (decide (0 < t))) (fun _ => ret (D.int (i % t))) st = _
  rw [decide_eq_true h0]
  rfl
theorem mul_ok {i j : Int} {st : Store} (h : (-(2 ^ 64) < i ∧ i < 2 ^ 64) ∨ (-(2 ^ 64) < j ∧ j < 2 ^ 64)) : binop .mul (.int i) (.int j) st = .ok (.int (i * j)) st := by
  show bnd (guard (smallMul i j)) (fun _ => ret (D.int (i * j))) st = _
  have : smallMul i j = true := by
    unfold smallMul
    rw [Bool.or_eq_true, Bool.and_eq_true, Bool.and_eq_true, decide_eq_true_eq, decide_eq_true_eq, decide_eq_true_eq, decide_eq_true_eq]
    exact h
  rw [this]
  rfl
theorem p_mul {i j : Int} {st : Store} {Q : D → Store → Prop} {E : Ex → Store → Prop} (k : Q (.int (i * j)) st) (h : (-(2 ^ 64) < i ∧ i < 2 ^ 64) ∨ (-(2 ^ 64) < j ∧ j < 2 ^ 64)) : Run (binop .mul (.int i) (.int j)) st Q E := p_binop (mul_ok h) k
theorem p_mod {i j : Int} {st : Store} {Q : D → Store → Prop} {E : Ex → Store → Prop} (k : Q (.int (i % j)) st) (h : 0 < j) : Run (binop .mod (.int i) (.int j)) st Q E := p_binop (mod_ok h) k
theorem p_int {i : Int} {st : Store} {Q : D → Store → Prop} {E : Ex → Store → Prop} (k : Q (.int i) st) : Run (biop .int [.int i]) st Q E := k
theorem p_intb {b : Bool} {st : Store} {Q : D → Store → Prop} {E : Ex → Store → Prop} (k : Q (.int (if b then 1 else 0)) st) : Run (biop .int [.bl b]) st Q E := k
theorem p_add {i j : Int} {st : Store} {Q : D → Store → Prop} {E : Ex → Store → Prop} (k : Q (.int (i + j)) st) : Run (binop .add (.int i) (.int j)) st Q E := k
theorem p_ge {i j : Int} {st : Store} {Q : D → Store → Prop} {E : Ex → Store → Prop} (k : Q (.bl (decide (j ≤ i))) st) : Run (cmpop .ge (.int i) (.int j)) st Q E := k
theorem s_take (n : Nat) {j : Nat} {t : Int} {st : Store} {E : Ex → Store → Prop} (hj : J st j) (h0 : 0 < t) (h1 : t < 2 ^ 64) : Run ((calls G (n + 1)).1 14 [.loc j, .int t]) st (fun d s => ∃ r : Nat, d = .int (r : Int) ∧ (r : Int) < t ∧ J s j ∧ Fx [j] st s) E := by
  obtain ⟨a, b, hj⟩ := hj
  refine rd_def [some (.loc j), some (.int t), none] rfl rfl rfl rfl rfl ?_
  unfold c14
  repeat fail
  refine p_idxD (idx_loc (.inl hj) at0) ?_
  repeat fail
  · rename_i h
    repeat fail
    refine p_idxD (idx_loc (.inl hj) at0) ?_
    repeat fail
    refine p_binop (mod_ok h0) ?_
    repeat fail
    refine p_idxD (idx_loc (.inl hj) at0) ?_
    repeat fail
    refine p_binop (fdiv_ok h0 h1) ?_
    repeat fail
    refine p_setiD (seti_at hj (i := 0) rfl) ?_
    repeat fail
    have e0 : 0 ≤ a % t := Int.emod_nonneg _ (by omega)
    have e1 : a % t < t := Int.emod_lt_of_pos _ h0
    refine ⟨(a % t).toNat, by rw [Int.toNat_of_nonneg e0], by rw [Int.toNat_of_nonneg e0]; exact e1, ⟨_, _, set_at hj⟩, Fx.set (by simp)⟩
  · rename_i h
    repeat fail
    refine p_idxD (idx_loc (.inl hj) (i := 1) (d := .int b) rfl) ?_
    repeat fail
    refine p_binop (mul_ok (.inr ⟨by omega, by omega⟩)) ?_
    repeat fail
    refine p_setiD (seti_at hj (i := 1) rfl) ?_
    repeat fail
    have c0 : 0 ≤ (b * 39373 + 7) % 2147483647 := Int.emod_nonneg _ (by omega)
    have c1 : (b * 39373 + 7) % 2147483647 < 2147483647 := Int.emod_lt_of_pos _ (by omega)
    generalize (b * 39373 + 7) % 2147483647 = c at c0 c1 ⊢
    have hj' : (st.set j (Ob.lst ([D.int a, D.int b].set 1 (D.int c))))[j]? = some (.lst [.int a, .int c]) := set_at hj
    have f' : Fx [j] st (st.set j (Ob.lst ([D.int a, D.int b].set 1 (D.int c)))) := Fx.set (by simp)
    generalize (st.set j (Ob.lst ([D.int a, D.int b].set 1 (D.int c)))) = S at hj' f' ⊢
    refine p_idxD (idx_loc (.inl hj') (i := 1) (d := .int c) rfl) ?_
    repeat fail
    refine p_idxD (idx_loc (.inl hj') (i := 1) (d := .int c) rfl) ?_
    repeat fail
    refine p_binop (mul_ok (.inl ⟨by omega, by omega⟩)) ?_
    repeat fail
    refine p_binop (mod_ok h0) ?_
    repeat fail
    generalize c * c % 2147483629 / 32 = z
    have e0 : 0 ≤ z % t := Int.emod_nonneg _ (by omega)
    have e1 : z % t < t := Int.emod_lt_of_pos _ h0
    exact ⟨(z % t).toNat, by rw [Int.toNat_of_nonneg e0], by rw [Int.toNat_of_nonneg e0]; exact e1, ⟨_, _, hj'⟩, f'⟩
theorem s_one (n : Nat) {j l : Nat} {ds : List D} {st : Store} {E : Ex → Store → Prop} (hj : J st j) (hl : st[l]? = some (.lst ds)) (hn : l ≠ j) (h0 : 0 < ds.length) (h1 : ds.length < 1000000) : Run ((calls G (n + 2)).1 15 [.loc j, .loc l]) st (fun d s => d ∈ ds ∧ J s j ∧ Fx [j] st s) E := by
  refine rd_def [some (.loc j), some (.loc l)] rfl rfl rfl rfl rfl ?_
  unfold c15
  repeat fail
  refine p_biop (len_loc (.inl hl)) ?_
  repeat fail
  refine (s_take (E := fun _ _ => False) n hj (by omega) (by omega)).to fun d s h => ?_
  · obtain ⟨r, rfl, hr, hj', f⟩ := h
    have hr : r < ds.length := by omega
    refine p_idxD (idx_loc (.inl (f.get hl (by rw [List.mem_singleton]; exact hn))) (atN (List.getElem?_eq_getElem hr))) ?_
    repeat fail
    exact ⟨List.getElem_mem hr, hj', f⟩
end MI.P

set_option Elab.async false
set_option linter.all false
set_option maxRecDepth 100000
set_option maxHeartbeats 4000000
/-! PLAIN, part 17: the jar's takers. -/
namespace MI.P
open PySem K82
open TL (tl)
local macro_rules | `(tactic| fail) => `(tactic| first
  | ((with_reducible refine e_var.mpr ?_); refine ⟨_, rfl, ?_⟩)
  | with_reducible refine e_c.mpr ?_
  | with_reducible refine e_gv.mpr ?_
  | with_reducible refine e_bin.mpr ?_
  | with_reducible refine e_cmp.mpr ?_
  | with_reducible refine e_chain.mpr ?_
  | with_reducible refine e_neg.mpr ?_
  | with_reducible refine e_not.mpr ?_
  | with_reducible refine e_and.mpr ?_
  | with_reducible refine e_or.mpr ?_
  | with_reducible refine e_ife.mpr ?_
  | with_reducible refine e_nil.mpr ?_
  | with_reducible refine e_cons.mpr ?_
  | with_reducible refine e_consT.mpr ?_
  | with_reducible refine e_consU.mpr ?_
  | with_reducible refine e_rep.mpr ?_
  | with_reducible refine e_tup.mpr ?_
  | with_reducible refine e_lst.mpr ?_
  | with_reducible refine e_idx.mpr ?_
  | with_reducible refine e_part.mpr ?_
  | with_reducible refine e_sl.mpr ?_
  | with_reducible refine e_attr.mpr ?_
  | with_reducible refine e_call.mpr ?_
  | with_reducible refine e_make.mpr ?_
  | with_reducible refine e_meth.mpr ?_
  | with_reducible refine e_bi.mpr ?_
  | with_reducible refine e_isi.mpr ?_
  | with_reducible refine e_yes.mpr ?_
  | with_reducible refine e_lc.mpr ?_
  | with_reducible refine runS_seq.mpr ?_
  | with_reducible refine t_skip.mpr ?_
  | with_reducible refine t_asg.mpr ?_
  | with_reducible refine t_setf.mpr ?_
  | with_reducible refine t_augf.mpr ?_
  | with_reducible refine t_seti.mpr ?_
  | with_reducible refine t_exp.mpr ?_
  | with_reducible refine t_ite.mpr ?_
  | with_reducible refine t_ret.mpr ?_
  | with_reducible refine t_retn.mpr ?_
  | with_reducible refine t_raise.mpr ?_
  | with_reducible refine t_for.mpr ?_
  | with_reducible refine k_nx ?_
  | with_reducible refine k_rt ?_
  | with_reducible refine k_xx ?_
  | with_reducible refine q_nx ?_
  | with_reducible refine q_rt ?_
  | with_reducible refine q_xx ?_
  | ((with_reducible refine g_isiD ?_); refine p_isiD rfl ?_)
  | ((with_reducible refine g_cmpop ?_); refine p_cmpop rfl ?_)
  | ((with_reducible refine g_binop ?_); refine p_binop rfl ?_)
  | ((with_reducible refine g_consD ?_); refine p_consD rfl ?_)
  | ((with_reducible refine g_biop ?_); refine p_biop rfl ?_)
  | ((with_reducible refine g_idxD ?_); refine p_idxD rfl ?_)
  | ((with_reducible refine g_sliD ?_); refine p_sliD rfl ?_)
  | ((with_reducible refine g_augop ?_); refine p_augop rfl ?_)
  | ((with_reducible refine g_setiD ?_); refine p_setiD rfl ?_)
  | ((with_reducible refine g_srcOf ?_); refine p_srcOf rfl ?_)
  | ((with_reducible refine g_repD ?_); refine p_repD rfl ?_)
  | with_reducible refine b_nm0 ?_
  | ((with_reducible refine b_nm ?h0 ?_); (case h0 => rfl))
  | ((with_reducible refine g_bindT ?_); refine p_bindT rfl ?_)
  | ((with_reducible refine g_itOf ?_); refine p_itOf rfl ?_)
  | ((with_reducible refine e_lam.mpr ?_); refine ⟨_, rfl, ?_⟩)
  | ((with_reducible refine t_aug.mpr ?_); refine ⟨_, rfl, ?_⟩)
  | ((with_reducible refine ex_tup ?h0 ?_); (case h0 => exact Nat.le_of_ble_eq_true rfl))
  | with_reducible refine br_t ?_
  | with_reducible refine br_f ?_
  | with_reducible refine br_nd (fun h => ?_) (fun h => ?_)
  | with_reducible refine br_d (fun h => ?_) (fun h => ?_)
  | ((with_reducible refine br_g ?_); refine br_t ?_)
  | ((with_reducible refine br_g ?_); refine br_f ?_)
  | with_reducible refine br_n (fun h => ?_) (fun h => ?_)
  | with_reducible refine br_b (fun h => ?_) (fun h => ?_)
  | with_reducible refine ⟨_, rfl, ?_⟩)
def foreignL : List Str := ["é", "а", "١", "²", "½", "１", "\u2003", "\u00a0", "\u2028", "\u0085", "\u200b", "−", "，", (PySem.Str.mk #[120793]), "ſ", "\u0000", "\u000b", "\u000c", "\u001c", "\u000d", "\t", "%", "+", "_", ".", ",", "\"", "'", "\\", "{", "K"]
def oddL : List Str := ["", "0", "00", "01", "-1", "-0", "+1", "1000000", "1000001", "1000000000000", "1000000000001", "99999999999999999999", "999999999999999999999", "none", "1,2", "keys", "x", "1.0", "1e3"]
theorem foreign_ok : ∀ x ∈ foreignL, cOk x ∧ x.length ≤ 1 := by
  have : foreignL.all (fun x => (tl x).all (fun c => decide (c < 0x110000)) && decide (x.length ≤ 1)) = true := by decide +kernel
  intro x hx
  have := List.all_eq_true.mp this x hx
  rw [Bool.and_eq_true, decide_eq_true_eq] at this
  exact ⟨fun c hc => of_decide_eq_true (List.all_eq_true.mp this.1 c hc), this.2⟩
theorem odd_ok : ∀ x ∈ oddL, cOk x ∧ x.length ≤ 30 := by
  have : oddL.all (fun x => (tl x).all (fun c => decide (c < 0x110000)) && decide (x.length ≤ 30)) = true := by decide +kernel
  intro x hx
  have := List.all_eq_true.mp this x hx
  rw [Bool.and_eq_true, decide_eq_true_eq] at this
  exact ⟨fun c hc => of_decide_eq_true (List.all_eq_true.mp this.1 c hc), this.2⟩
theorem s_foreign (n : Nat) {st : Store} : (calls G (n + 1)).1 28 [] st = .ok (.loc st.length) (st ++ [.lst (foreignL.map .str)]) := by
  refine run_to (rd_def [] rfl rfl rfl rfl rfl ?_)
  unfold c28
  repeat fail
  exact ⟨rfl, rfl⟩
theorem nine_20 : (⟨(List.replicate (Int.toNat 20) ("9" : Str).cps.toList).flatten.toArray⟩ : Str) = "99999999999999999999" := by decide +kernel
theorem nine_21 : (⟨(List.replicate (Int.toNat 21) ("9" : Str).cps.toList).flatten.toArray⟩ : Str) = "999999999999999999999" := by decide +kernel
theorem jar_lt {j : Nat} {st : Store} (h : J st j) : j < st.length := by
  obtain ⟨a, b, h⟩ := h
  exact (List.getElem?_eq_some_iff.mp h).1
theorem s_oddword (n : Nat) {j : Nat} {st : Store} (hj : J st j) : Run ((calls G (n + 3)).1 32 [.loc j]) st (fun d s => ∃ w, d = .str w ∧ cOk w ∧ w.length ≤ 30 ∧ J s j ∧ Fx [j] st s) fun _ _ => False := by
  refine rd_def [some (.loc j)] rfl rfl rfl rfl rfl ?_
  unfold c32
  repeat fail
  rw [nine_20, nine_21]
  have hlj := jar_lt hj
  refine (s_one n (ds := oddL.map .str) (hj.fx (Fx.app (S := []) st _) (by simp)) app_at (by omega) (by decide +kernel) (by decide +kernel)).to fun d s h => ?_
  obtain ⟨h, hj', f⟩ := h
  obtain ⟨w, hw, rfl⟩ := List.mem_map.mp h
  repeat fail
  have := odd_ok w hw
  exact ⟨this.1, this.2, hj', ((Fx.app st _).trans f)⟩
theorem s_somenum (n : Nat) {j : Nat} {m : Int} {st : Store} (hj : J st j) (h0 : 1000 ≤ m) (h1 : m < 2 ^ 60) : Run ((calls G (n + 3)).1 29 [.loc j, .int m]) st (fun d s => ∃ v : Int, d = .int v ∧ 0 ≤ v ∧ v ≤ m ∧ J s j ∧ Fx [j] st s) fun _ _ => False := by
  refine rd_def [some (.loc j), some (.int m)] rfl rfl rfl rfl rfl ?_
  unfold c29
  repeat fail
  refine (s_take (E := fun _ _ => False) (n + 1) hj (by omega) (by omega)).to fun d s h => ?_
  obtain ⟨r, rfl, hr, hj1, f1⟩ := h
  repeat fail
  refine (s_take (E := fun _ _ => False) (n + 1) hj1 (by omega) (by omega)).to fun d s2 h => ?_
  obtain ⟨r2, rfl, hr2, hj2, f2⟩ := h
  repeat fail
  have hlj := jar_lt hj2
  refine (s_one (E := fun _ _ => False) n (hj2.fx (Fx.app (S := []) s2 _) (by simp)) app_at (by omega) (by simp) (by simp)).to fun d s3 h => ?_
  obtain ⟨h, hj3, f3⟩ := h
  have : ∃ v : Int, d = .int v ∧ 0 ≤ v ∧ v ≤ m := by
    simp only [List.mem_cons, List.not_mem_nil, or_false] at h
    rcases h with rfl | rfl | rfl | rfl | rfl | rfl | rfl | rfl <;> exact ⟨_, rfl, by omega, by omega⟩
  obtain ⟨v, rfl, e0, e1⟩ := this
  repeat fail
  exact ⟨e0, e1, hj3, (f1.trans f2).trans ((Fx.app _ _).trans f3)⟩
theorem max_ok {i j : Int} {st : Store} {Q : D → Store → Prop} {E : Ex → Store → Prop} (k : Q (.int (if j > i then j else i)) st) : Run (biop .max2 [.int i, .int j]) st Q E := k
theorem min_ok {i j : Int} {st : Store} {Q : D → Store → Prop} {E : Ex → Store → Prop} (k : Q (.int (if j < i then j else i)) st) : Run (biop .min2 [.int i, .int j]) st Q E := k
theorem lm_append : lmOf "append" = some .append := by
  unfold lmOf
  rw [if_pos rfl]
theorem lm_extend : lmOf "extend" = some .extend := by
  unfold lmOf
  rw [if_neg (by decide +kernel), if_pos rfl]
theorem lm_pop : lmOf "pop" = some .pop := by
  unfold lmOf
  rw [if_neg (by decide +kernel), if_neg (by decide +kernel), if_pos rfl]
theorem ok_lst {l : Nat} {xs : List D} {m : Str} {st : Store} (h : st[l]? = some (.lst xs)) (k : (lmOf m).isSome = true) : methOk G (.loc l) m st = .ok () st := by
  unfold methOk
  simp only [h]
  show guard (lmOf m).isSome st = _
  rw [k]
  rfl
theorem m_lst {cf : Nat → List D → M D} {l : Nat} {xs : List D} {m : Str} {k : Lm'} {as : List D} {v : D} {st st' : Store} (h : st[l]? = some (.lst xs)) (e : lmOf m = some k) (hv : lstM k l xs as st = .ok v st') : methD G cf (.loc l) m as st = .ok v st' := by
  unfold methD
  simp only [h, e]
  exact hv
theorem app_ok {l : Nat} {xs : List D} {y : D} {st : Store} (h : xs.length < sizeLine) : lstM .append l xs [y] st = .ok .non (st.set l (.lst (xs ++ [y]))) := by
  show bnd (guard (decide (xs.length < sizeLine))) (fun _ => bnd (setAt l (.lst (xs ++ [y]))) fun _ => ret D.non) st = _
  rw [decide_eq_true h]
  rfl
theorem pop_ok {l i : Nat} {xs : List D} {x : D} {st : Store} (h : xs[i]? = some x) (hn : xs.length < 1000000) : lstM .pop l xs [.int (i : Int)] st = .ok x (st.set l (.lst (xs.eraseIdx i))) := by
  have hi := (List.getElem?_eq_some_iff.mp h).1
  have eg : (decide (-(2 ^ 63) ≤ (i : Int)) && decide ((i : Int) < 2 ^ 63)) = true := by
    simp
    omega
  have e : seqIndex? (i : Int) xs.length = some i := by
    unfold seqIndex?
    simp
    omega
  unfold lstM
  simp only [eg, e]
  unfold popD
  simp only [h]
  rfl
theorem ext_ok {l k : Nat} {xs zs : List D} {st : Store} (h : st[k]? = some (.lst zs)) (hn : xs.length + zs.length ≤ sizeLine) : lstM .extend l xs [.loc k] st = .ok .non (st.set l (.lst (xs ++ zs))) := by
  show (match st[k]? with
    | some (.lst zs) => bnd (guard (decide (xs.length + zs.length ≤ sizeLine))) (fun _ => bnd (setAt l (.lst (xs ++ zs))) fun _ => ret D.non) st
    | _ => .no) = _
  rw [h]
  simp only [decide_eq_true hn]
  rfl
theorem list_loc {l : Nat} {ds : List D} {st : Store} (h : st[l]? = some (.lst ds)) : biop .list [.loc l] st = .ok (.loc st.length) (st ++ [.lst ds]) := by
  show bnd (seqOf (.loc l)) (fun ds => alloc (.lst ds)) st = _
  unfold bnd seqOf
  simp only [h]
  rfl
theorem s_mixed (n : Nat) {j l : Nat} {ds : List D} {st : Store} (hj : J st j) (hl : st[l]? = some (.lst ds)) (hn : ds.length < 1000) : Run ((calls G (n + 2)).1 16 [.loc j, .loc l]) st (fun d s => ∃ k fs, d = .loc k ∧ s[k]? = some (.lst fs) ∧ fs.length = ds.length ∧ (∀ x ∈ fs, x ∈ ds) ∧ st.length ≤ k ∧ J s j ∧ Fx [j] st s) fun _ _ => False := by
  have hz := sizeL
  have hlj := jar_lt hj
  refine rd_def [some (.loc j), some (.loc l), none, none, none] rfl rfl rfl rfl rfl ?_
  unfold c16
  repeat fail
  refine p_biop (list_loc hl) ?_
  repeat fail
  refine p_biop (len_loc (.inl (((Fx.app (S := []) st _).apps _).get hl (by simp)))) ?_
  repeat fail
  have hi := itr (n := ds.length) (y := .bl true) (st := st ++ [.lst ds] ++ [.lst []]) (by omega)
  with_reducible refine p_itOf hi ?_
  refine for_run (fun r fr s => ∃ i z xs fs, r = ((List.range' i (ds.length - i)).map fun (k : Nat) => D.int (k : Int)) ∧ i ≤ ds.length ∧ fr = ⟨[some (.loc j), some (.loc l), some (.loc st.length), some (.loc (st.length + 1)), z], []⟩ ∧ s[st.length]? = some (.lst xs) ∧ s[st.length + 1]? = some (.lst fs) ∧ xs.length = ds.length - i ∧ fs.length = i ∧ (∀ x ∈ xs, x ∈ ds) ∧ (∀ x ∈ fs, x ∈ ds) ∧ J s j ∧ Fx [j] st s) (fun _ _ _ _ => rfl) ?_ ?_ _ _ _ ⟨0, none, ds, [], rfl, Nat.zero_le _, by simp, app2_0, by simp, rfl, rfl, fun x h => h, (fun x h => by cases h), hj.fx ((Fx.app (S := []) st _).apps _) (by simp), (Fx.app _ _).apps _⟩
  · rintro d r fr s ⟨i, z, xs, fs, e, hi, rfl, hx, hf, lx, lf, mx, mf, hj', f⟩
    have hlt : i < ds.length := by
      rcases Nat.lt_or_ge i ds.length with z | z
      · exact z
      · rw [show ds.length - i = 0 by omega] at e
        cases e
    rw [show ds.length - i = (ds.length - (i + 1)) + 1 by omega, List.range'_succ, List.map_cons] at e
    obtain ⟨rfl, rfl⟩ := List.cons.inj e
    refine runS_ex.mpr ?_
    repeat fail
    refine p_methOk (ok_lst hf (by rw [lm_append]; rfl)) ?_
    repeat fail
    refine p_methOk (ok_lst hx (by rw [lm_pop]; rfl)) ?_
    repeat fail
    refine p_biop (len_loc (.inl hx)) ?_
    repeat fail
    refine (s_take (E := fun _ _ => False) (n) hj' (by omega) (by omega)).to fun d s2 h => ?_
    obtain ⟨r2, rfl, hr2, hj2, f2⟩ := h
    have hx2 := f2.get hx (by rw [List.mem_singleton]; omega)
    have hf2 := f2.get hf (by rw [List.mem_singleton]; omega)
    have hr2 : r2 < xs.length := by omega
    have hg : xs[r2]? = some xs[r2] := List.getElem?_eq_getElem hr2
    repeat fail
    refine p_methD (m_lst hx2 lm_pop (pop_ok hg (by omega))) ?_
    repeat fail
    have hx3 := set_at (o := .lst (xs.eraseIdx r2)) hx2
    have hf3 : (s2.set st.length (.lst (xs.eraseIdx r2)))[st.length + 1]? = some (.lst fs) := by
      rw [List.getElem?_set_ne (by omega)]
      exact hf2
    have f3 : Fx [j] st (s2.set st.length (.lst (xs.eraseIdx r2))) := (f.trans f2).setNew (Nat.le_refl _)
    have hj3 : J (s2.set st.length (.lst (xs.eraseIdx r2))) j := hj2.fx (Fx.set (S := [st.length]) (by simp)) (by rw [List.mem_singleton]; omega)
    generalize (s2.set st.length (.lst (xs.eraseIdx r2))) = S3 at hx3 hf3 f3 hj3 ⊢
    refine p_methD (m_lst hf3 lm_append (app_ok (by omega))) ?_
    repeat fail
    refine ⟨i + 1, _, xs.eraseIdx r2, fs ++ [xs[r2]], rfl, by omega, rfl, ?_, set_at hf3, ?_, ?_, ?_, ?_, ?_, f3.setNew (by omega)⟩
    · rw [List.getElem?_set_ne (by omega)]
      exact hx3
    · rw [List.length_eraseIdx, if_pos hr2]
      omega
    · simp
      omega
    · intro x hx
      exact mx x (List.mem_of_mem_eraseIdx hx)
    · intro x hx
      rcases List.mem_append.mp hx with h | h
      · exact mf x h
      · rw [List.mem_singleton.mp h]
        exact mx _ (List.getElem_mem hr2)
    · exact hj3.fx (Fx.set (S := [st.length + 1]) (by simp)) (by rw [List.mem_singleton]; omega)
  · rintro fr s ⟨i, z, xs, fs, e, hi, rfl, hx, hf, lx, lf, mx, mf, hj', f⟩
    have : ds.length - i = 0 := by
      cases q : ds.length - i with
      | zero => rfl
      | succ k => rw [q, List.range'_succ] at e; cases e
    repeat fail
    exact ⟨_, fs, rfl, hf, by omega, mf, by omega, hj', f⟩
end MI.P

set_option Elab.async false
set_option linter.all false
set_option maxRecDepth 100000
set_option maxHeartbeats 4000000
/-! PLAIN, part 18: some keys, the pool. -/
namespace MI.P
open PySem K82
open TL (tl)
local macro_rules | `(tactic| fail) => `(tactic| first
  | with_reducible refine max_ok ?_
  | with_reducible refine min_ok ?_
  | with_reducible refine p_mul ?_ ?_
  | with_reducible refine p_mod ?_ ?_
  | with_reducible refine p_int ?_
  | with_reducible refine p_intb ?_
  | with_reducible refine p_add ?_
  | with_reducible refine p_ge ?_
  | ((with_reducible refine e_var.mpr ?_); refine ⟨_, rfl, ?_⟩)
  | with_reducible refine e_c.mpr ?_
  | with_reducible refine e_gv.mpr ?_
  | with_reducible refine e_bin.mpr ?_
  | with_reducible refine e_cmp.mpr ?_
  | with_reducible refine e_chain.mpr ?_
  | with_reducible refine e_neg.mpr ?_
  | with_reducible refine e_not.mpr ?_
  | with_reducible refine e_and.mpr ?_
  | with_reducible refine e_or.mpr ?_
  | with_reducible refine e_ife.mpr ?_
  | with_reducible refine e_nil.mpr ?_
  | with_reducible refine e_cons.mpr ?_
  | with_reducible refine e_consT.mpr ?_
  | with_reducible refine e_consU.mpr ?_
  | with_reducible refine e_rep.mpr ?_
  | with_reducible refine e_tup.mpr ?_
  | with_reducible refine e_lst.mpr ?_
  | with_reducible refine e_idx.mpr ?_
  | with_reducible refine e_part.mpr ?_
  | with_reducible refine e_sl.mpr ?_
  | with_reducible refine e_attr.mpr ?_
  | with_reducible refine e_call.mpr ?_
  | with_reducible refine e_make.mpr ?_
  | with_reducible refine e_meth.mpr ?_
  | with_reducible refine e_bi.mpr ?_
  | with_reducible refine e_isi.mpr ?_
  | with_reducible refine e_yes.mpr ?_
  | with_reducible refine e_lc.mpr ?_
  | with_reducible refine runS_seq.mpr ?_
  | with_reducible refine t_skip.mpr ?_
  | with_reducible refine t_asg.mpr ?_
  | with_reducible refine t_setf.mpr ?_
  | with_reducible refine t_augf.mpr ?_
  | with_reducible refine t_seti.mpr ?_
  | with_reducible refine t_exp.mpr ?_
  | with_reducible refine t_ite.mpr ?_
  | with_reducible refine t_ret.mpr ?_
  | with_reducible refine t_retn.mpr ?_
  | with_reducible refine t_raise.mpr ?_
  | with_reducible refine t_for.mpr ?_
  | with_reducible refine k_nx ?_
  | with_reducible refine k_rt ?_
  | with_reducible refine k_xx ?_
  | with_reducible refine q_nx ?_
  | with_reducible refine q_rt ?_
  | with_reducible refine q_xx ?_
  | ((with_reducible refine g_isiD ?_); refine p_isiD rfl ?_)
  | ((with_reducible refine g_cmpop ?_); refine p_cmpop rfl ?_)
  | ((with_reducible refine g_binop ?_); refine p_binop rfl ?_)
  | ((with_reducible refine g_consD ?_); refine p_consD rfl ?_)
  | ((with_reducible refine g_biop ?_); refine p_biop rfl ?_)
  | ((with_reducible refine g_idxD ?_); refine p_idxD rfl ?_)
  | ((with_reducible refine g_sliD ?_); refine p_sliD rfl ?_)
  | ((with_reducible refine g_augop ?_); refine p_augop rfl ?_)
  | ((with_reducible refine g_setiD ?_); refine p_setiD rfl ?_)
  | ((with_reducible refine g_srcOf ?_); refine p_srcOf rfl ?_)
  | ((with_reducible refine g_repD ?_); refine p_repD rfl ?_)
  | with_reducible refine b_nm0 ?_
  | ((with_reducible refine b_nm ?h0 ?_); (case h0 => rfl))
  | ((with_reducible refine g_bindT ?_); refine p_bindT rfl ?_)
  | ((with_reducible refine g_itOf ?_); refine p_itOf rfl ?_)
  | ((with_reducible refine e_lam.mpr ?_); refine ⟨_, rfl, ?_⟩)
  | ((with_reducible refine t_aug.mpr ?_); refine ⟨_, rfl, ?_⟩)
  | ((with_reducible refine ex_tup ?h0 ?_); (case h0 => exact Nat.le_of_ble_eq_true rfl))
  | with_reducible refine br_t ?_
  | with_reducible refine br_f ?_
  | with_reducible refine br_nd (fun h => ?_) (fun h => ?_)
  | with_reducible refine br_d (fun h => ?_) (fun h => ?_)
  | ((with_reducible refine br_g ?_); refine br_t ?_)
  | ((with_reducible refine br_g ?_); refine br_f ?_)
  | with_reducible refine br_n (fun h => ?_) (fun h => ?_)
  | with_reducible refine br_b (fun h => ?_) (fun h => ?_)
  | with_reducible refine ⟨_, rfl, ?_⟩)
theorem J.kill {j n k : Nat} {s : Store} (h : J s j) (hn : j < n) : J (killC s n k) j := by
  obtain ⟨a, b, h⟩ := h
  exact ⟨a, b, by rw [killC_out (by omega)]; exact h⟩
theorem s_somekeys (n k : Nat) {j : Nat} {st : Store} (hj : J st j) (hk : k ≤ 41) : Run ((calls G (n + 4)).1 30 [.loc j, .int (k : Int)]) st (fun d s => ∃ a as, d = .tup [.int a, .tup (as.map D.int)] ∧ as.length = k ∧ NumsOk a as ∧ J s j ∧ Fx [j] st s) fun _ _ => False := by
  have hz := sizeL
  have hlj := jar_lt hj
  refine rd_defC [some (.loc j), some (.int (k : Int)), none] [(0, st.length)] [.cell (some (.loc j))] rfl rfl rfl rfl rfl rfl ?_
  unfold c30
  have f0 : Fx [j] st (st ++ [Ob.cell (some (.loc j))]) := Fx.app _ _
  have hj0 : J (st ++ [Ob.cell (some (.loc j))]) j := hj.fx (Fx.app (S := []) _ _) (by simp)
  generalize st ++ [Ob.cell (some (.loc j))] = S0 at f0 hj0 ⊢
  repeat fail
  rw [e6]
  have g0 : (1000 : Int) ≤ 1000000 := by omega
  have g1 : (1000000 : Int) < 2 ^ 60 := by decide +kernel
  have hsn := s_somenum n hj0 g0 g1
  refine hsn.to fun d s h => ?_
  obtain ⟨v, rfl, v0, v1, hj1, f1⟩ := h
  repeat fail
  with_reducible refine p_itOf (itr (by omega)) ?_
  refine ⟨by show (List.map _ _).length ≤ _; simp; omega, ?_⟩
  refine (lc_run (E := fun _ _ => False) (fun r' a s2 => ∃ (i : Nat) (is : List Int), r' = ((List.range' i (k - i)).map fun (k : Nat) => D.int (k : Int)) ∧ i ≤ k ∧ a = is.map D.int ∧ is.length = i ∧ (∀ x ∈ is, 0 ≤ x ∧ x ≤ 1000000000000) ∧ J s2 j ∧ Fx [j] s s2) (fun _ _ _ _ => rfl) ?_ _ [] _ ⟨0, [], rfl, Nat.zero_le _, rfl, rfl, (fun x h => by cases h), hj1, Fx.refl _⟩).to fun res s2 kk => ?_
  · rintro d r' a s2 ⟨i, is, e, hi, rfl, li, mi, hj2, fs⟩
    have hlt : i < k := by
      rcases Nat.lt_or_ge i k with z | z
      · exact z
      · rw [show k - i = 0 by omega] at e
        cases e
    rw [show k - i = (k - (i + 1)) + 1 by omega, List.range'_succ, List.map_cons] at e
    obtain ⟨rfl, rfl⟩ := List.cons.inj e
    refine lcT_run.mpr ?_
    repeat fail
    rw [e12]
    refine (s_somenum (m := 1000000000000) n hj2 (by decide +kernel) (by decide +kernel)).to fun d s3 h => ?_
    obtain ⟨w, rfl, w0, w1, hj3, f3⟩ := h
    refine ⟨i + 1, is ++ [w], rfl, by omega, ?_, ?_, ?_, hj3, fs.trans f3⟩
    · rw [List.map_append]
      rfl
    · simp [li]
    · intro x hx
      rcases List.mem_append.mp hx with h | h
      · exact mi x h
      · rw [List.mem_singleton.mp h]
        exact ⟨w0, w1⟩
  obtain ⟨i, is, e, hi, er, li, mi, hj2, fs⟩ := kk
  have hi2 : i = k := by
    have : k - i = 0 := by
      cases q : k - i with
      | zero => rfl
      | succ k => rw [q, List.range'_succ] at e; cases e
    omega
  rw [List.nil_append] at er
  subst er
  repeat fail
  refine p_biop (tuple_loc app_at) ?_
  repeat fail
  refine ⟨_, is, rfl, by omega, ⟨?_, by omega, mi⟩, ?_, ?_⟩
  · split <;> omega
  · exact (hj2.fx (Fx.app (S := []) _ _) (by simp)).kill hlj
  · exact (((f0.trans f1).trans fs).apps _).kill (Nat.le_refl _)
theorem ints_flat {is : List Int} : ∀ d ∈ is.map D.int, FlatD d := by
  intro d hd
  obtain ⟨i, _, rfl⟩ := List.mem_map.mp hd
  exact trivial
theorem s_pool (n k : Nat) {q : Nat} {is : List Int} {st : Store} (hq : st[q]? = some (.lst (is.map D.int)) ∨ st[q]? = some (.fro (is.map D.int))) (hk : k ≤ 100) : Run ((calls G (n + 1)).1 13 [.loc q, .int (k : Int)]) st (fun d s => ∃ j, d = .loc j ∧ J s j ∧ st.length ≤ j ∧ Fx [] st s) fun _ _ => False := by
  have hz := sizeL
  refine rd_def [some (.loc q), some (.int (k : Int)), none, none, none] rfl rfl rfl rfl rfl ?_
  unfold c13
  repeat fail
  refine p_biop (len_loc hq) ?_
  repeat fail
  · rename_i c
    have c : k < is.length := by
      rw [List.length_map] at c
      omega
    repeat fail
    refine p_idxD (idx_loc hq (atN (x := .int is[k]) (by rw [List.getElem?_map, List.getElem?_eq_getElem c]; rfl))) ?_
    generalize is[k] = v
    repeat' (first
      | fail
      | refine p_biop (len_loc hq) ?_
      | exact ⟨_, rfl, ⟨_, _, app_at⟩, by simp, Fx.app _ _⟩
      | exact ⟨rfl, ⟨_, _, app_at⟩, by simp, Fx.app _ _⟩
      | exact ⟨⟨_, _, app_at⟩, by simp, Fx.app _ _⟩
      | (left; exact ⟨by decide +kernel, by decide +kernel⟩)
      | (right; exact ⟨by decide +kernel, by decide +kernel⟩)
      | (right; omega)
      | (right; split <;> omega)
      | omega)
  · rename_i c
    repeat fail
    have hq' : (st ++ [Ob.lst []])[q]? = some (.lst (is.map D.int)) ∨ (st ++ [Ob.lst []])[q]? = some (.fro (is.map D.int)) := hq.imp (fun h => (Fx.app (S := []) st _).get h (by simp)) fun h => (Fx.app (S := []) st _).get h (by simp)
    refine p_cmpop (r_nen hq' app_at ints_flat) ?_
    cases is with
    | nil =>
      have hq' : (st ++ [Ob.lst []])[q]? = some (.lst []) ∨ (st ++ [Ob.lst []])[q]? = some (.fro []) := hq'
      repeat' (first
        | fail
        | refine p_biop (len_loc hq') ?_
        | exact ⟨_, rfl, ⟨_, _, app_at⟩, by simp, (Fx.app _ _).apps _⟩
        | exact ⟨rfl, ⟨_, _, app_at⟩, by simp, (Fx.app _ _).apps _⟩
        | exact ⟨⟨_, _, app_at⟩, by simp, (Fx.app _ _).apps _⟩
        | (left; exact ⟨by decide +kernel, by decide +kernel⟩)
        | (right; exact ⟨by decide +kernel, by decide +kernel⟩)
        | (right; omega)
        | (right; split <;> omega)
        | omega)
    | cons v r =>
      repeat fail
      refine p_idxD (idx_loc hq' at0) ?_
      repeat' (first
        | fail
        | refine p_biop (len_loc hq') ?_
        | exact ⟨_, rfl, ⟨_, _, app_at⟩, by simp, (Fx.app _ _).apps _⟩
        | exact ⟨rfl, ⟨_, _, app_at⟩, by simp, (Fx.app _ _).apps _⟩
        | exact ⟨⟨_, _, app_at⟩, by simp, (Fx.app _ _).apps _⟩
        | (left; exact ⟨by decide +kernel, by decide +kernel⟩)
        | (right; exact ⟨by decide +kernel, by decide +kernel⟩)
        | (right; omega)
        | (right; split <;> omega)
        | omega)
end MI.P

set_option Elab.async false
set_option linter.all false
set_option maxRecDepth 100000
set_option maxHeartbeats 4000000
/-! PLAIN, part 19: what is told is the text's own keys. -/
namespace MI.P
open PySem K82
open TL (tl)
local macro_rules | `(tactic| fail) => `(tactic| first
  | with_reducible refine max_ok ?_
  | with_reducible refine min_ok ?_
  | with_reducible refine p_mul ?_ ?_
  | with_reducible refine p_mod ?_ ?_
  | with_reducible refine p_int ?_
  | with_reducible refine p_intb ?_
  | with_reducible refine p_add ?_
  | with_reducible refine p_ge ?_
  | ((with_reducible refine e_var.mpr ?_); refine ⟨_, rfl, ?_⟩)
  | with_reducible refine e_c.mpr ?_
  | with_reducible refine e_gv.mpr ?_
  | with_reducible refine e_bin.mpr ?_
  | with_reducible refine e_cmp.mpr ?_
  | with_reducible refine e_chain.mpr ?_
  | with_reducible refine e_neg.mpr ?_
  | with_reducible refine e_not.mpr ?_
  | with_reducible refine e_and.mpr ?_
  | with_reducible refine e_or.mpr ?_
  | with_reducible refine e_ife.mpr ?_
  | with_reducible refine e_nil.mpr ?_
  | with_reducible refine e_cons.mpr ?_
  | with_reducible refine e_consT.mpr ?_
  | with_reducible refine e_consU.mpr ?_
  | with_reducible refine e_rep.mpr ?_
  | with_reducible refine e_tup.mpr ?_
  | with_reducible refine e_lst.mpr ?_
  | with_reducible refine e_idx.mpr ?_
  | with_reducible refine e_part.mpr ?_
  | with_reducible refine e_sl.mpr ?_
  | with_reducible refine e_attr.mpr ?_
  | with_reducible refine e_call.mpr ?_
  | with_reducible refine e_make.mpr ?_
  | with_reducible refine e_meth.mpr ?_
  | with_reducible refine e_bi.mpr ?_
  | with_reducible refine e_isi.mpr ?_
  | with_reducible refine e_yes.mpr ?_
  | with_reducible refine e_lc.mpr ?_
  | with_reducible refine runS_seq.mpr ?_
  | with_reducible refine t_skip.mpr ?_
  | with_reducible refine t_asg.mpr ?_
  | with_reducible refine t_setf.mpr ?_
  | with_reducible refine t_augf.mpr ?_
  | with_reducible refine t_seti.mpr ?_
  | with_reducible refine t_exp.mpr ?_
  | with_reducible refine t_ite.mpr ?_
  | with_reducible refine t_ret.mpr ?_
  | with_reducible refine t_retn.mpr ?_
  | with_reducible refine t_raise.mpr ?_
  | with_reducible refine t_for.mpr ?_
  | with_reducible refine k_nx ?_
  | with_reducible refine k_rt ?_
  | with_reducible refine k_xx ?_
  | with_reducible refine q_nx ?_
  | with_reducible refine q_rt ?_
  | with_reducible refine q_xx ?_
  | ((with_reducible refine g_isiD ?_); refine p_isiD rfl ?_)
  | ((with_reducible refine g_cmpop ?_); refine p_cmpop rfl ?_)
  | ((with_reducible refine g_binop ?_); refine p_binop rfl ?_)
  | ((with_reducible refine g_consD ?_); refine p_consD rfl ?_)
  | ((with_reducible refine g_biop ?_); refine p_biop rfl ?_)
  | ((with_reducible refine g_idxD ?_); refine p_idxD rfl ?_)
  | ((with_reducible refine g_sliD ?_); refine p_sliD rfl ?_)
  | ((with_reducible refine g_augop ?_); refine p_augop rfl ?_)
  | ((with_reducible refine g_setiD ?_); refine p_setiD rfl ?_)
  | ((with_reducible refine g_srcOf ?_); refine p_srcOf rfl ?_)
  | ((with_reducible refine g_repD ?_); refine p_repD rfl ?_)
  | with_reducible refine b_nm0 ?_
  | ((with_reducible refine b_nm ?h0 ?_); (case h0 => rfl))
  | ((with_reducible refine g_bindT ?_); refine p_bindT rfl ?_)
  | ((with_reducible refine g_itOf ?_); refine p_itOf rfl ?_)
  | ((with_reducible refine e_lam.mpr ?_); refine ⟨_, rfl, ?_⟩)
  | ((with_reducible refine t_aug.mpr ?_); refine ⟨_, rfl, ?_⟩)
  | ((with_reducible refine ex_tup ?h0 ?_); (case h0 => exact Nat.le_of_ble_eq_true rfl))
  | with_reducible refine br_t ?_
  | with_reducible refine br_f ?_
  | with_reducible refine br_nd (fun h => ?_) (fun h => ?_)
  | with_reducible refine br_d (fun h => ?_) (fun h => ?_)
  | ((with_reducible refine br_g ?_); refine br_t ?_)
  | ((with_reducible refine br_g ?_); refine br_f ?_)
  | with_reducible refine br_n (fun h => ?_) (fun h => ?_)
  | with_reducible refine br_b (fun h => ?_) (fun h => ?_)
  | with_reducible refine ⟨_, rfl, ?_⟩)
theorem fold_le (r : List Nat) : ∀ a : Nat, a ≤ r.foldl (fun acc c => acc * 10 + (c - 48)) a := by
  induction r with
  | nil => exact fun a => Nat.le_refl _
  | cons c r ih =>
    intro a
    have := ih (a * 10 + (c - 48))
    rw [List.foldl_cons]
    omega
theorem val_pos {c : Nat} {r : List Nat} (h0 : 48 ≤ c) (h : c ≠ 48) : 1 ≤ NumText.digitsVal (c :: r) := by
  unfold NumText.digitsVal
  rw [List.foldl_cons]
  have := fold_le r (0 * 10 + (c - 48))
  omega
theorem val_snoc {r : List Nat} {c : Nat} : NumText.digitsVal (r ++ [c]) = NumText.digitsVal r * 10 + (c - 48) := by
  unfold NumText.digitsVal
  rw [List.foldl_append]
  rfl
/-- a number's signs are its own where no nought leads -/
theorem canon : ∀ (n : Nat) {ds : List Nat}, ds.length = n → ds ≠ [] → (∀ c ∈ ds, 48 ≤ c ∧ c ≤ 57) → (ds = [48] ∨ ds.head? ≠ some 48) → TL.numL (NumText.digitsVal ds) = ds
  | 0, ds, hl, hn, _, _ => absurd (List.eq_nil_of_length_eq_zero hl) hn
  | n + 1, ds, hl, hn, hd, hc => by
    have e : ds.dropLast ++ [ds.getLast hn] = ds := List.dropLast_concat_getLast hn
    generalize ds.getLast hn = c at e
    generalize hr : ds.dropLast = r at e
    subst e
    have hcd := hd c (by simp)
    rw [val_snoc]
    by_cases z : r = []
    · subst z
      show TL.numL (0 * 10 + (c - 48)) = [c]
      rw [TL.numL_lt (by omega)]
      congr 1
      omega
    · obtain ⟨x, xs, rfl⟩ := List.exists_cons_of_ne_nil z
      have hx : x ≠ 48 := by
        rcases hc with hc | hc
        · simp at hc
        · intro e
          rw [e] at hc
          exact hc rfl
      have hp := val_pos (r := xs) (hd x (by simp)).1 hx
      rw [TL.numL_step (by omega)]
      have e1 : (NumText.digitsVal (x :: xs) * 10 + (c - 48)) / 10 = NumText.digitsVal (x :: xs) := by omega
      have e2 : (NumText.digitsVal (x :: xs) * 10 + (c - 48)) % 10 = c - 48 := by omega
      rw [e1, e2, canon n (ds := x :: xs) (by simp at hl; simpa using hl) (by simp) (fun y hy => hd y (List.mem_append_left _ hy)) (.inr (by simpa using hx))]
      congr 1
      congr 1
      omega
theorem num_canon {w : Str} {v : Int} (h : numO w = some v) : w = numS v ∧ 0 ≤ v := by
  unfold numO at h
  split at h
  · rename_i c
    obtain ⟨⟨c1, c2⟩, c3, c4⟩ := c
    injection h with h
    have hd : ∀ c ∈ tl w, 48 ≤ c ∧ c ≤ 57 := fun c hc => digB_iff.mp (List.all_eq_true.mp c4 c hc)
    have hn : tl w ≠ [] := fun z => by
      rw [slen, z] at c1
      simp at c1
    have hz : tl w = [48] ∨ (tl w).head? ≠ some 48 := c3.imp (fun z => by rw [z]; decide +kernel) fun z => z
    have e := canon _ rfl hn hd hz
    subst h
    refine ⟨?_, by omega⟩
    rw [str_eq, tl_numS (by omega), Int.toNat_natCast, e]
  · cases h
theorem in_canon {w : Str} {lo hi v : Int} (h : inO w lo hi = some v) : w = numS v ∧ lo ≤ v ∧ v ≤ hi := by
  unfold inO at h
  cases e : numO w with
  | none => rw [e] at h; cases h
  | some u =>
    rw [e] at h
    by_cases c : (decide (lo ≤ u) && decide (u ≤ hi)) = true
    · rw [Option.filter_some, if_pos c] at h
      injection h with h
      subst h
      rw [Bool.and_eq_true, decide_eq_true_eq, decide_eq_true_eq] at c
      exact ⟨(num_canon e).1, c⟩
    · rw [Option.filter_some, if_neg c] at h
      cases h
theorem in_numS {v lo hi : Int} (h0 : 0 ≤ v) (h1 : lo ≤ v) (h2 : v ≤ hi) (h3 : v ≤ 1000000000000) : inO (numS v) lo hi = some v := by
  have e : numO (numS v) = some v := by
    unfold numO
    have hl := numS_len h0 h3
    have t := tl_numS h0
    have hne := TL.numL_ne v.toNat
    rw [if_pos ?_]
    · rw [t, TL.numL_val, Int.toNat_of_nonneg h0]
    · refine ⟨⟨?_, by omega⟩, ?_, ?_⟩
      · rw [slen, t]
        exact List.length_pos_iff.mpr hne
      · by_cases z : v = 0
        · left
          rw [z]
          decide +kernel
        · right
          rw [t]
          have head : ∀ n : Nat, ∀ m : Nat, m ≤ n → 1 ≤ m → (TL.numL m).head? ≠ some 48 := by
            intro n
            induction n with
            | zero => exact fun m h1 h2 => by omega
            | succ n ih =>
              intro m h1 h2
              by_cases c : m < 10
              · rw [TL.numL_lt c]
                simp
                omega
              · rw [TL.numL_step (by omega)]
                have := ih (m / 10) (by omega) (by omega)
                have hn := TL.numL_ne (m / 10)
                cases q : TL.numL (m / 10) with
                | nil => exact absurd q hn
                | cons a r => rw [q] at this; simpa using this
          exact head _ _ (Nat.le_refl _) (by omega)
      · rw [t]
        exact List.all_eq_true.mpr fun c hc => digB_iff.mpr (TL.numL_digits _ c hc)
  unfold inO
  rw [e, Option.filter_some, if_pos (by simp [h1, h2])]
theorem firstB_all {k : Nat} : ∀ {bs : List Bool} {i : Nat}, firstB k i bs = none → ∀ j, j < bs.length → i + j < k ∧ bs[j]? = some true
  | [], i, e, j, h => absurd h (by simp)
  | a :: r, i, e, j, h => by
    unfold firstB at e
    split at e
    · cases e
    · rename_i c
      have ha : a = true := by
        cases a
        · exact absurd (.inr rfl) c
        · rfl
      have hi : ¬ k ≤ i := fun z => c (.inl z)
      cases j with
      | zero => exact ⟨by omega, by rw [ha]; rfl⟩
      | succ j =>
        have := firstB_all e j (by simpa using h)
        exact ⟨by omega, by simpa using this.2⟩
theorem upto_of {W : List Str} {k : Nat} (h : wrongW W.length (letsB "keys" W (kb k)) = none) : Upto W k (k + 2) ∧ W.length = k + 2 := by
  unfold wrongW at h
  cases e : firstB W.length 0 (letsB "keys" W (kb k)) with
  | some b => rw [e] at h; cases h
  | none =>
    rw [e] at h
    simp only [lets_len] at h
    have u : Upto W k (k + 2) := fun j hj => firstB_all e j (by rw [lets_len]; exact hj)
    have := (u (k + 1) (by omega)).1
    split at h
    · cases h
    · exact ⟨u, by omega⟩
theorem some_getD {o : Option Int} (h : o.isSome = true) : o = some (o.getD 0) := by
  cases o with
  | none => cases h
  | some v => rfl
theorem rk_text {k : Nat} {t : Str} {s : Int} {ss : List Int} (hk : k ≤ 41) (h : RK k t = .told s ss) : kT s ss = t ∧ NumsOk s ss ∧ ss.length = k := by
  unfold RK at h
  split at h
  rotate_left
  · cases h
  split at h
  · cases h
  rename_i hw
  split at h
  rotate_left
  · cases h
  rename_i h1
  obtain ⟨u, hl⟩ := upto_of hw
  have ht := told_eq (W := firstW t) (k := k)
  rw [ht.1, ht.2] at h
  injection h with es ess
  have w0 : (firstW t).getD 0 "" = "keys" := by
    have := (u 0 (by omega)).2
    rw [lets0] at this
    exact of_decide_eq_true (Option.some.inj this)
  have w1 := in_canon (some_getD (o := inO ((firstW t).getD 1 "") 1 1000000) (by
    have := (u 1 (by omega)).2
    rw [lets1] at this
    exact Option.some.inj this))
  have wi : ∀ i, i < k → _ := fun i hi => in_canon (some_getD (o := inO ((firstW t).getD (2 + i) "") 0 1000000000000) (by
    have := (u (2 + i) (by omega)).2
    rw [letsS hi] at this
    exact Option.some.inj this))
  rw [es] at w1
  have hss : ss.length = k := by rw [← ess]; simp
  have hW : firstW t = kTl s ss := by
    apply List.ext_getElem?
    intro i
    by_cases hi : i < k + 2
    · have hg : ∀ j, j < k + 2 → (firstW t)[j]? = some ((firstW t).getD j "") := fun j hj => by
        rw [List.getD_eq_getElem?_getD, List.getElem?_eq_getElem (by omega)]
        rfl
      rw [hg i hi]
      match i, hi with
      | 0, _ => rw [w0]; rfl
      | 1, _ => rw [w1.1]; rfl
      | i + 2, hi =>
        have := (wi i (by omega)).1
        rw [show i + 2 = 2 + i by omega, this]
        unfold kTl
        rw [show 2 + i = i + 1 + 1 by omega, List.getElem?_cons_succ, List.getElem?_cons_succ, List.getElem?_map, ← ess]
        simp [show i < k by omega, show i + 1 + 1 = 2 + i by omega]
    · rw [List.getElem?_eq_none (by omega), List.getElem?_eq_none (by rw [kTl_n]; omega)]
  refine ⟨?_, ⟨⟨by omega, by omega⟩, by omega, ?_⟩, hss⟩
  · have e1 := StrLaws.join_split t "\n"
    obtain ⟨l0, hL⟩ : ∃ l0, Txt.split t "\n" = [l0] := by
      match q : Txt.split t "\n", h1 with
      | [l0], _ => exact ⟨l0, rfl⟩
    rw [hL] at e1
    have e1 : l0 = t := e1
    have e2 : firstW t = Txt.split t " " := by
      unfold firstW
      rw [hL, ← e1]
      rfl
    unfold kT
    rw [← hW, e2]
    exact StrLaws.join_split t " "
  · intro x hx
    rw [← ess] at hx
    obtain ⟨i, hi, rfl⟩ := List.mem_map.mp hx
    have := wi i (by simpa using hi)
    exact ⟨this.2.1, this.2.2⟩
end MI.P

set_option Elab.async false
set_option linter.all false
set_option maxRecDepth 100000
set_option maxHeartbeats 4000000
/-! PLAIN, part 20: reading what is printed; read_right. -/
namespace MI.P
open PySem K82
open TL (tl)
local macro_rules | `(tactic| fail) => `(tactic| first
  | with_reducible refine max_ok ?_
  | with_reducible refine min_ok ?_
  | with_reducible refine p_mul ?_ ?_
  | with_reducible refine p_mod ?_ ?_
  | with_reducible refine p_int ?_
  | with_reducible refine p_intb ?_
  | with_reducible refine p_add ?_
  | with_reducible refine p_ge ?_
  | ((with_reducible refine e_var.mpr ?_); refine ⟨_, rfl, ?_⟩)
  | with_reducible refine e_c.mpr ?_
  | with_reducible refine e_gv.mpr ?_
  | with_reducible refine e_bin.mpr ?_
  | with_reducible refine e_cmp.mpr ?_
  | with_reducible refine e_chain.mpr ?_
  | with_reducible refine e_neg.mpr ?_
  | with_reducible refine e_not.mpr ?_
  | with_reducible refine e_and.mpr ?_
  | with_reducible refine e_or.mpr ?_
  | with_reducible refine e_ife.mpr ?_
  | with_reducible refine e_nil.mpr ?_
  | with_reducible refine e_cons.mpr ?_
  | with_reducible refine e_consT.mpr ?_
  | with_reducible refine e_consU.mpr ?_
  | with_reducible refine e_rep.mpr ?_
  | with_reducible refine e_tup.mpr ?_
  | with_reducible refine e_lst.mpr ?_
  | with_reducible refine e_idx.mpr ?_
  | with_reducible refine e_part.mpr ?_
  | with_reducible refine e_sl.mpr ?_
  | with_reducible refine e_attr.mpr ?_
  | with_reducible refine e_call.mpr ?_
  | with_reducible refine e_make.mpr ?_
  | with_reducible refine e_meth.mpr ?_
  | with_reducible refine e_bi.mpr ?_
  | with_reducible refine e_isi.mpr ?_
  | with_reducible refine e_yes.mpr ?_
  | with_reducible refine e_lc.mpr ?_
  | with_reducible refine runS_seq.mpr ?_
  | with_reducible refine t_skip.mpr ?_
  | with_reducible refine t_asg.mpr ?_
  | with_reducible refine t_setf.mpr ?_
  | with_reducible refine t_augf.mpr ?_
  | with_reducible refine t_seti.mpr ?_
  | with_reducible refine t_exp.mpr ?_
  | with_reducible refine t_ite.mpr ?_
  | with_reducible refine t_ret.mpr ?_
  | with_reducible refine t_retn.mpr ?_
  | with_reducible refine t_raise.mpr ?_
  | with_reducible refine t_for.mpr ?_
  | with_reducible refine k_nx ?_
  | with_reducible refine k_rt ?_
  | with_reducible refine k_xx ?_
  | with_reducible refine q_nx ?_
  | with_reducible refine q_rt ?_
  | with_reducible refine q_xx ?_
  | ((with_reducible refine g_isiD ?_); refine p_isiD rfl ?_)
  | ((with_reducible refine g_cmpop ?_); refine p_cmpop rfl ?_)
  | ((with_reducible refine g_binop ?_); refine p_binop rfl ?_)
  | ((with_reducible refine g_consD ?_); refine p_consD rfl ?_)
  | ((with_reducible refine g_biop ?_); refine p_biop rfl ?_)
  | ((with_reducible refine g_idxD ?_); refine p_idxD rfl ?_)
  | ((with_reducible refine g_sliD ?_); refine p_sliD rfl ?_)
  | ((with_reducible refine g_augop ?_); refine p_augop rfl ?_)
  | ((with_reducible refine g_setiD ?_); refine p_setiD rfl ?_)
  | ((with_reducible refine g_srcOf ?_); refine p_srcOf rfl ?_)
  | ((with_reducible refine g_repD ?_); refine p_repD rfl ?_)
  | with_reducible refine b_nm0 ?_
  | ((with_reducible refine b_nm ?h0 ?_); (case h0 => rfl))
  | ((with_reducible refine g_bindT ?_); refine p_bindT rfl ?_)
  | ((with_reducible refine g_itOf ?_); refine p_itOf rfl ?_)
  | ((with_reducible refine e_lam.mpr ?_); refine ⟨_, rfl, ?_⟩)
  | ((with_reducible refine t_aug.mpr ?_); refine ⟨_, rfl, ?_⟩)
  | ((with_reducible refine ex_tup ?h0 ?_); (case h0 => exact Nat.le_of_ble_eq_true rfl))
  | with_reducible refine br_t ?_
  | with_reducible refine br_f ?_
  | with_reducible refine br_nd (fun h => ?_) (fun h => ?_)
  | with_reducible refine br_d (fun h => ?_) (fun h => ?_)
  | ((with_reducible refine br_g ?_); refine br_t ?_)
  | ((with_reducible refine br_g ?_); refine br_f ?_)
  | with_reducible refine br_n (fun h => ?_) (fun h => ?_)
  | with_reducible refine br_b (fun h => ?_) (fun h => ?_)
  | with_reducible refine ⟨_, rfl, ?_⟩)
theorem rk_print {k : Nat} {s : Int} {ss : List Int} (h : NumsOk s ss) (hk : ss.length = k) : RK k (kT s ss) = .told s ss := by
  obtain ⟨h1, h2, h3⟩ := h
  have hc : ∀ p ∈ kTl s ss, ∀ c ∈ tl p, 33 ≤ c := by
    intro p hp c hcp
    unfold kTl at hp
    rcases List.mem_cons.mp hp with rfl | hp
    · have : (tl "keys").all (fun c => decide (33 ≤ c)) = true := by decide +kernel
      exact of_decide_eq_true (List.all_eq_true.mp this c hcp)
    rcases List.mem_cons.mp hp with rfl | hp
    · rw [tl_numS (by omega)] at hcp
      have := TL.numL_digits _ c hcp
      omega
    obtain ⟨i, hi, rfl⟩ := List.mem_map.mp hp
    rw [tl_numS (h3 i hi).1] at hcp
    have := TL.numL_digits _ c hcp
    omega
  have hW : Txt.split (kT s ss) " " = kTl s ss := by
    have := TL.split_join (y := " ") (s := 32) (S := []) (by decide +kernel) (by decide +kernel) (parts := kTl s ss) (by simp [kTl]) (fun p hp hm => by
      have := hc p hp 32 hm
      omega)
    rw [TL.join_eq] at this
    exact this
  have hcT : ∀ c ∈ tl (kT s ss), c ≠ 10 := by
    have aux : ∀ ps : List Str, (∀ p ∈ ps, ∀ c ∈ tl p, 33 ≤ c) → ∀ c ∈ tl (Str.join " " ps), c ≠ 10 := by
      intro ps
      induction ps with
      | nil => intro _ c hc; cases hc
      | cons p r ih =>
        intro hp c hc
        cases r with
        | nil =>
          have := hp p List.mem_cons_self c hc
          omega
        | cons q r =>
          have hc : c ∈ tl (p ++ " " ++ Str.join " " (q :: r)) := hc
          rw [TL.tl_append, TL.tl_append, List.mem_append, List.mem_append] at hc
          rcases hc with (hc | hc) | hc
          · have := hp p List.mem_cons_self c hc
            omega
          · have e : tl (" " : Str) = [32] := by decide +kernel
            rw [e, List.mem_singleton] at hc
            omega
          · exact ih (fun z hz => hp z (List.mem_cons_of_mem _ hz)) c hc
    exact aux _ hc
  have hL : Txt.split (kT s ss) "\n" = [kT s ss] := by
    have := TL.split_join (y := "\n") (s := 10) (S := []) (by decide +kernel) (by decide +kernel) (parts := [kT s ss]) (by simp) (fun p hp hm => by
      rw [List.mem_singleton.mp hp] at hm
      exact hcT 10 hm rfl)
    rw [TL.join_eq] at this
    exact this
  have hF : firstW (kT s ss) = kTl s ss := by
    unfold firstW
    rw [hL]
    exact hW
  have g1 : inO ((kTl s ss).getD 1 "") 1 1000000 = some s := in_numS (v := s) (by omega) (by omega) (by omega) (by omega)
  have gi : ∀ i (hi : i < k), inO ((kTl s ss).getD (2 + i) "") 0 1000000000000 = some (ss[i]'(by omega)) := by
    intro i hi
    have hm := h3 _ (List.getElem_mem (show i < ss.length by omega))
    have : (kTl s ss).getD (2 + i) "" = numS (ss[i]'(by omega)) := by
      unfold kTl
      rw [List.getD_eq_getElem?_getD, show 2 + i = i + 1 + 1 by omega, List.getElem?_cons_succ, List.getElem?_cons_succ, List.getElem?_map, List.getElem?_eq_getElem (by omega)]
      rfl
    rw [this]
    exact in_numS hm.1 hm.1 hm.2 hm.2
  have up : Upto (kTl s ss) k (k + 2) := by
    intro j hj
    refine ⟨by rw [kTl_n]; omega, ?_⟩
    match j, hj with
    | 0, _ => rw [lets0]; rfl
    | 1, _ => rw [lets1, g1]; rfl
    | i + 2, hj => rw [show i + 2 = 2 + i by omega, letsS (by omega), gi i (by omega)]; rfl
  have hw := wrong_end up
  rw [if_neg (by rw [kTl_n]; omega)] at hw
  have hlen := kT_len (s := s) (ss := ss) ⟨h1, h2, h3⟩
  unfold RK
  rw [if_pos (by omega), hF, hw, hL]
  simp only
  rw [if_pos (show [kT s ss].length = 1 from rfl)]
  have ht := told_eq (W := kTl s ss) (k := k)
  rw [ht.1, ht.2, g1]
  congr 1
  apply List.ext_getElem?
  intro i
  by_cases hi : i < k
  · rw [List.getElem?_map, List.getElem?_range' hi]
    simp only [Option.map_some]
    rw [show 0 + 1 * i = i by omega, gi i hi, List.getElem?_eq_getElem (by omega)]
    rfl
  · rw [List.getElem?_eq_none (by simp; omega), List.getElem?_eq_none (by omega)]
theorem dat_tup {n : Nat} {ds : List D} (h1 : ds.length < 1000) (h2 : ∀ d ∈ ds, Dat n d) : Dat (n + 1) (.tup ds) := by
  unfold Dat
  exact ⟨h1, h2⟩
theorem dat_two {n : Nat} {a b : D} (h1 : Dat n a) (h2 : Dat n b) : Dat (n + 1) (.tup [a, b]) := dat_tup (by simp) fun x hx => by
  rcases List.mem_cons.mp hx with rfl | hx
  · exact h1
  · rw [List.mem_singleton.mp hx]
    exact h2
theorem dat_str {n : Nat} {s : Str} : Dat n (.str s) := by
  cases n <;> exact trivial
theorem dat_int {n : Nat} {s : Int} : Dat n (.int s) := by
  cases n <;> exact trivial
theorem dat_ints {n : Nat} {ss : List Int} (h : ss.length < 1000) : Dat (n + 1) (.tup (ss.map .int)) := dat_tup (by simpa using h) fun x hx => by
  obtain ⟨i, _, rfl⟩ := List.mem_map.mp hx
  exact dat_int
theorem same_at {N : Nat} (m : Nat) {d : D} {st : Store} (h : Dat m d) (hN : m + 2 ≤ N) : (calls G N).1 9 [d, d] st = .ok (.bl true) st := by
  obtain ⟨n, rfl⟩ : ∃ n, N = n + m + 2 := ⟨N - (m + 2), by omega⟩
  exact same_self n m h
theorem s_tells (n k : Nat) {ls : List Nat} {owed : D} {st : Store} (hd : Dat 3 owed) (h : Run ((calls G (n + 5)).2 k ls []) st (fun d s => d = owed ∧ Fx [] st s) fun _ _ => False) : Run ((calls G (n + 7)).1 11 [.clo k ls, owed]) st (fun d s => d = .bl true ∧ Fx [] st s) fun _ _ => False := by
  refine rd_def [some (.clo k ls), some owed] rfl rfl rfl rfl rfl ?_
  unfold c11
  repeat fail
  refine s_heard (n + 4) k ?_
  refine h.imp (fun d s g => ?_) (fun _ _ z => z.elim)
  obtain ⟨rfl, f⟩ := g
  repeat fail
  have e : Dat 4 (.tup [.str "told", d]) := dat_two dat_str hd
  refine (run_eq (same_at 4 e (by omega))).mpr ?_
  repeat fail
  exact ⟨rfl, f⟩
theorem s_refuses (n k : Nat) {ls : List Nat} {w : Str} {what : D} {st : Store} (hd : Dat 3 what) (h : Run ((calls G (n + 5)).2 k ls []) st (fun _ _ => False) fun x s => nameOf x.cls = some w ∧ x.what = what ∧ Fx [] st s) : Run ((calls G (n + 7)).1 12 [.clo k ls, .str w, what]) st (fun d s => d = .bl true ∧ Fx [] st s) fun _ _ => False := by
  refine rd_def [some (.clo k ls), some (.str w), some what] rfl rfl rfl rfl rfl ?_
  unfold c12
  repeat fail
  refine s_heard (n + 4) k ?_
  refine h.imp (fun d s g => g.elim) (fun x s g => ⟨w, g.1, fun s' f' => ?_⟩)
  obtain ⟨g1, rfl, f⟩ := g
  repeat fail
  have e : Dat 4 (.tup [.str w, x.what]) := dat_two dat_str hd
  refine (run_eq (same_at 4 e (by omega))).mpr ?_
  repeat fail
  exact ⟨rfl, f.trans f'⟩
theorem rk_dat {k : Nat} {t : Str} (hk : k ≤ 41) : Dat 3 (RK k t).d := by
  cases e : RK k t with
  | told s ss =>
    have := (rk_text hk e).2.1.2.1
    exact dat_two dat_str (dat_two dat_int (dat_ints (by omega)))
  | wrong a b => exact dat_two dat_str (dat_two dat_int dat_int)
  | many m => exact dat_two dat_str dat_int
theorem name_of {k : Nat} {t : Str} {x : Ex} (h : REx (RK k t) x) : ∃ w, nameOf x.cls = some w ∧ D.tup [.str w, x.what] = (RK k t).d := by
  cases e : RK k t with
  | told s ss => rw [e] at h; exact h.elim
  | wrong a b =>
    rw [e] at h
    have h : x = ⟨4, .tup [.int (a : Int), .int (b : Int)]⟩ := h
    rw [h]
    exact ⟨"WrongLine", rfl, rfl⟩
  | many m =>
    rw [e] at h
    have h : x = ⟨1, .int (m : Int)⟩ := h
    rw [h]
    exact ⟨"TooMany", rfl, rfl⟩
theorem cells2 {a b : Nat} {x y : D} {st : Store} (h1 : st[a]? = some (.cell (some x))) (h2 : st[b]? = some (.cell (some y))) : cellsAt st [a, b] = some [x, y] := by
  unfold cellsAt
  simp only [h1]
  unfold cellsAt
  simp only [h2]
  rfl
theorem cells1 {a : Nat} {x : D} {st : Store} (h1 : st[a]? = some (.cell (some x))) : cellsAt st [a] = some [x] := by
  unfold cellsAt
  simp only [h1]
  rfl
theorem s_readright (n k : Nat) {t : Str} {st : Store} (hk : k ≤ 40) (ht : t.length ≤ 1000000) (hc : cOk t) : Run ((calls G (n + 8)).1 34 [.int (k : Int), .str t]) st (fun d s => d = .bl true ∧ Fx [] st s) fun _ _ => False := by
  refine rd_defC [some (.int (k : Int)), some (.str t), none] [(0, st.length), (1, st.length + 1), (2, st.length + 2)] [.cell (some (.int (k : Int))), .cell (some (.str t)), .cell none] rfl rfl rfl rfl rfl rfl ?_
  unfold c34
  have f0 : Fx [] st (st ++ [Ob.cell (some (.int (k : Int))), .cell (some (.str t)), .cell none]) := Fx.app _ _
  have c0 : (st ++ [Ob.cell (some (.int (k : Int))), .cell (some (.str t)), .cell none])[st.length]? = some (.cell (some (.int (k : Int)))) := by simp
  have c1 : (st ++ [Ob.cell (some (.int (k : Int))), .cell (some (.str t)), .cell none])[st.length + 1]? = some (.cell (some (.str t))) := by simp
  have c2 : (st ++ [Ob.cell (some (.int (k : Int))), .cell (some (.str t)), .cell none])[st.length + 2]? = some (.cell none) := by simp
  generalize (st ++ [Ob.cell (some (.int (k : Int))), .cell (some (.str t)), .cell none]) = S0 at f0 c0 c1 c2 ⊢
  repeat fail
  refine (s_lawkeys (n + 3) k (by omega) ht hc).to fun d s1 h => ?_
  obtain ⟨rfl, f1⟩ := h
  have g0 := f1.get c0 (by simp)
  have g1 := f1.get c1 (by simp)
  have g2 := f1.get c2 (by simp)
  have f2 : Fx [] st (s1.set (st.length + 2) (.cell (some (RK k t).d))) := (f0.trans f1).setNew (by omega)
  have k0 : (s1.set (st.length + 2) (.cell (some (RK k t).d)))[st.length]? = some (.cell (some (.int (k : Int)))) := by rw [List.getElem?_set_ne (by omega)]; exact g0
  have k1 : (s1.set (st.length + 2) (.cell (some (RK k t).d)))[st.length + 1]? = some (.cell (some (.str t))) := by rw [List.getElem?_set_ne (by omega)]; exact g1
  have k2 := set_at (o := .cell (some (RK k t).d)) g2
  repeat fail
  generalize hS : (s1.set (st.length + 2) (.cell (some (RK k t).d))) = S1 at f2 k0 k1 k2 ⊢
  refine s_heard (n + 5) 0 ?_
  refine s_lam (n + 5) 0 rfl rfl rfl (cells2 k1 k0) rfl rfl ?_
  repeat fail
  have rest : ∀ s, Fx [] S1 s → RunS (evs G (calls G (n + 7)).1 (calls G (n + 7)).2 (.seq (.ret (.or (.cmp .ne (.idx (.var 2) (.c (.int 0))) (.c (.str "told"))) (.call "_law_tells" 11 (.cons (.lam 1 [2, 0]) (.cons (.var 1) .nil))))) .skip) ⟨[some (.int (k : Int)), some (.str t), some (RK k t).d], [(0, st.length), (1, st.length + 1), (2, st.length + 2)]⟩) s (Ended (fun d s => d = .bl true ∧ Fx [] st (killC s st.length 3)) fun _ _ => False) := by
    intro s f3
    have j0 := f3.get k0 (by simp)
    have j2 := f3.get k2 (by simp)
    have fz := f2.trans f3
    cases e : RK k t with
    | wrong a b =>
      repeat fail
      · exact ⟨rfl, fz.kill (Nat.le_refl _)⟩
      · rename_i h
        exact absurd h (by decide +kernel)
    | many m =>
      repeat fail
      · exact ⟨rfl, fz.kill (Nat.le_refl _)⟩
      · rename_i h
        exact absurd h (by decide +kernel)
    | told a as =>
      obtain ⟨r1, r2, r3⟩ := rk_text (by omega) e
      rw [e] at j2
      repeat fail
      · rename_i h
        exact absurd rfl h
      repeat fail
      refine (s_tells n 1 (owed := .str t) dat_str ?_).to fun d s' h => ?_
      · refine s_lam (n + 4) 1 rfl rfl rfl (cells2 j2 j0) rfl rfl ?_
        repeat fail
        have hv : VK s (.tup [.int a, .tup (as.map D.int)]) := by
          refine ⟨by simp, fun x hx => ?_⟩
          rcases List.mem_cons.mp hx with rfl | hx
          · exact ⟨trivial, trivial⟩
          · rw [List.mem_singleton.mp hx]
            refine ⟨trivial, ?_, fun y hy => ?_⟩
            · rw [List.length_map]
              omega
            · obtain ⟨i, _, rfl⟩ := List.mem_map.mp hy
              exact trivial
        refine s_keystext (n + 1) k hk hv (fun a' as' st' ed _ _ f => ?_) (fun st' ek f => ?_)
        · injection ed with ed
          injection ed with e1 e2
          injection e1 with e1
          injection e2 with e2
          injection e2 with e2
          have e2 : as = as' := by
            have inj : ∀ {x y : List Int}, x.map D.int = y.map D.int → x = y := by
              intro x
              induction x with
              | nil => intro y h; cases y with
                | nil => rfl
                | cons b y => cases h
              | cons b x ih => intro y h; cases y with
                | nil => cases h
                | cons c y =>
                  rw [List.map_cons, List.map_cons] at h
                  injection h with h1 h2
                  injection h1 with h1
                  rw [h1, ih h2]
            exact inj e2
          subst e1
          subst e2
          exact ⟨by rw [r1], f⟩
        · exfalso
          rw [keysB_s] at ek
          have q1 : isNum (.int a) 1 1000000 = true := by
            unfold isNum
            have := r2.1
            simp [this]
          have q2 : allNum (as.map D.int) = true := by
            unfold allNum
            rw [List.all_map, List.all_eq_true]
            intro x hx
            have := r2.2.2 x hx
            simp [isNum, this]
          rw [q1, q2, List.length_map, decide_eq_true r3] at ek
          cases ek
      · obtain ⟨rfl, f'⟩ := h
        repeat fail
        exact ⟨rfl, (fz.trans f').kill (Nat.le_refl _)⟩
  have hd := rk_dat (t := t) (show k ≤ 41 by omega)
  refine (s_read n k hk ht).imp (fun d s h => ?_) (fun x s h => ?_)
  · obtain ⟨f3, a, as, e, rfl⟩ := h
    have e1 : D.tup [.str "told", .tup [.int a, .tup (as.map .int)]] = (RK k t).d := by
      rw [e]
      rfl
    rw [e1]
    repeat fail
    refine (run_eq (same_at 3 hd (by omega))).mpr ?_
    first
      | (iterate 3 fail); exact rest s f3
      | (iterate 4 fail); exact rest s f3
      | (iterate 5 fail); exact rest s f3
      | (iterate 6 fail); exact rest s f3
  · obtain ⟨f3, h⟩ := h
    obtain ⟨w, hw, ew⟩ := name_of h
    refine ⟨w, hw, fun s' f4 => ?_⟩
    rw [ew]
    repeat fail
    refine (run_eq (same_at 3 hd (by omega))).mpr ?_
    first
      | (iterate 3 fail); exact rest s' (f3.trans f4)
      | (iterate 4 fail); exact rest s' (f3.trans f4)
      | (iterate 5 fail); exact rest s' (f3.trans f4)
      | (iterate 6 fail); exact rest s' (f3.trans f4)
end MI.P

set_option Elab.async false
set_option linter.all false
set_option maxRecDepth 100000
set_option maxHeartbeats 4000000
/-! PLAIN, part 21: what is refused. -/
namespace MI.P
open PySem K82
open TL (tl)
local macro_rules | `(tactic| fail) => `(tactic| first
  | with_reducible refine max_ok ?_
  | with_reducible refine min_ok ?_
  | with_reducible refine p_mul ?_ ?_
  | with_reducible refine p_mod ?_ ?_
  | with_reducible refine p_int ?_
  | with_reducible refine p_intb ?_
  | with_reducible refine p_add ?_
  | with_reducible refine p_ge ?_
  | ((with_reducible refine e_var.mpr ?_); refine ⟨_, rfl, ?_⟩)
  | with_reducible refine e_c.mpr ?_
  | with_reducible refine e_gv.mpr ?_
  | with_reducible refine e_bin.mpr ?_
  | with_reducible refine e_cmp.mpr ?_
  | with_reducible refine e_chain.mpr ?_
  | with_reducible refine e_neg.mpr ?_
  | with_reducible refine e_not.mpr ?_
  | with_reducible refine e_and.mpr ?_
  | with_reducible refine e_or.mpr ?_
  | with_reducible refine e_ife.mpr ?_
  | with_reducible refine e_nil.mpr ?_
  | with_reducible refine e_cons.mpr ?_
  | with_reducible refine e_consT.mpr ?_
  | with_reducible refine e_consU.mpr ?_
  | with_reducible refine e_rep.mpr ?_
  | with_reducible refine e_tup.mpr ?_
  | with_reducible refine e_lst.mpr ?_
  | with_reducible refine e_idx.mpr ?_
  | with_reducible refine e_part.mpr ?_
  | with_reducible refine e_sl.mpr ?_
  | with_reducible refine e_attr.mpr ?_
  | with_reducible refine e_call.mpr ?_
  | with_reducible refine e_make.mpr ?_
  | with_reducible refine e_meth.mpr ?_
  | with_reducible refine e_bi.mpr ?_
  | with_reducible refine e_isi.mpr ?_
  | with_reducible refine e_yes.mpr ?_
  | with_reducible refine e_lc.mpr ?_
  | with_reducible refine runS_seq.mpr ?_
  | with_reducible refine t_skip.mpr ?_
  | with_reducible refine t_asg.mpr ?_
  | with_reducible refine t_setf.mpr ?_
  | with_reducible refine t_augf.mpr ?_
  | with_reducible refine t_seti.mpr ?_
  | with_reducible refine t_exp.mpr ?_
  | with_reducible refine t_ite.mpr ?_
  | with_reducible refine t_ret.mpr ?_
  | with_reducible refine t_retn.mpr ?_
  | with_reducible refine t_raise.mpr ?_
  | with_reducible refine t_for.mpr ?_
  | with_reducible refine k_nx ?_
  | with_reducible refine k_rt ?_
  | with_reducible refine k_xx ?_
  | with_reducible refine q_nx ?_
  | with_reducible refine q_rt ?_
  | with_reducible refine q_xx ?_
  | ((with_reducible refine g_isiD ?_); refine p_isiD rfl ?_)
  | ((with_reducible refine g_cmpop ?_); refine p_cmpop rfl ?_)
  | ((with_reducible refine g_binop ?_); refine p_binop rfl ?_)
  | ((with_reducible refine g_consD ?_); refine p_consD rfl ?_)
  | ((with_reducible refine g_biop ?_); refine p_biop rfl ?_)
  | ((with_reducible refine g_idxD ?_); refine p_idxD rfl ?_)
  | ((with_reducible refine g_sliD ?_); refine p_sliD rfl ?_)
  | ((with_reducible refine g_augop ?_); refine p_augop rfl ?_)
  | ((with_reducible refine g_setiD ?_); refine p_setiD rfl ?_)
  | ((with_reducible refine g_srcOf ?_); refine p_srcOf rfl ?_)
  | ((with_reducible refine g_repD ?_); refine p_repD rfl ?_)
  | with_reducible refine b_nm0 ?_
  | ((with_reducible refine b_nm ?h0 ?_); (case h0 => rfl))
  | ((with_reducible refine g_bindT ?_); refine p_bindT rfl ?_)
  | ((with_reducible refine g_itOf ?_); refine p_itOf rfl ?_)
  | ((with_reducible refine e_lam.mpr ?_); refine ⟨_, rfl, ?_⟩)
  | ((with_reducible refine t_aug.mpr ?_); refine ⟨_, rfl, ?_⟩)
  | ((with_reducible refine ex_tup ?h0 ?_); (case h0 => exact Nat.le_of_ble_eq_true rfl))
  | with_reducible refine br_t ?_
  | with_reducible refine br_f ?_
  | with_reducible refine br_nd (fun h => ?_) (fun h => ?_)
  | with_reducible refine br_d (fun h => ?_) (fun h => ?_)
  | ((with_reducible refine br_g ?_); refine br_t ?_)
  | ((with_reducible refine br_g ?_); refine br_f ?_)
  | with_reducible refine br_n (fun h => ?_) (fun h => ?_)
  | with_reducible refine br_b (fun h => ?_) (fun h => ?_)
  | with_reducible refine ⟨_, rfl, ?_⟩)
theorem s_ktbad (n : Nat) {d e : D} {st : Store} {Q : D → Store → Prop} {E : Ex → Store → Prop} (hd : Vld st d) (h : isNum d 0 40 = false) (k : E ⟨2, d⟩ st) : Run ((calls G (n + 3)).1 6 [d, e]) st Q E := by
  refine rd_def [some d, some e, none] rfl rfl rfl rfl rfl ?_
  unfold c6
  repeat fail
  refine s_asked n hd (fun z => by rw [h] at z; cases z) fun _ => ?_
  repeat fail
  exact k
theorem s_rdbad (n : Nat) {d e : D} {st : Store} {Q : D → Store → Prop} {E : Ex → Store → Prop} (hd : Vld st d) (h : isNum d 0 40 = false) (k : ∀ s, Fx [] st s → E ⟨2, d⟩ s) : Run ((calls G (n + 3)).1 7 [d, e]) st Q E := by
  refine rd_defC [some d, some e, none, none, none, none, none] [(3, st.length)] [.cell none] rfl rfl rfl rfl rfl rfl ?_
  unfold c7
  repeat fail
  refine s_asked n (hd.fx (Fx.app _ _)) (fun z => by rw [h] at z; cases z) fun _ => ?_
  repeat fail
  exact k _ ((Fx.app _ _).kill (Nat.le_refl _))
theorem s_rdtext (n k : Nat) {d : D} {st : Store} {Q : D → Store → Prop} {E : Ex → Store → Prop} (hk : k ≤ 40) (h : ∀ s, Fx [] st s → isiD d .str s = .ok (.bl false) s) (g : ∀ s, Fx [] st s → E ⟨0, .int (-1)⟩ s) : Run ((calls G (n + 5)).1 7 [.int (k : Int), d]) st Q E := by
  refine rd_defC [some (.int (k : Int)), some d, none, none, none, none, none] [(3, st.length)] [.cell none] rfl rfl rfl rfl rfl rfl ?_
  unfold c7
  repeat fail
  refine s_asked (n + 2) vld_int (fun _ => ?_) (fun z => by rw [num_ok hk] at z; cases z)
  repeat fail
  refine mk_1 ?_
  refine s_badinit (n + 2) (h _ ((Fx.app _ _).apps _)) ?_
  repeat fail
  exact g _ (((Fx.app _ _).apps _).kill (Nat.le_refl _))
theorem s_refused (n k : Nat) {j : Nat} {st : Store} (hj : J st j) (hk : k ≤ 40) : Run ((calls G (n + 9)).1 36 [.loc j, .int (k : Int)]) st (fun d s => d = .bl true ∧ J s j ∧ Fx [j] st s) fun _ _ => False := by
  have hz := sizeL
  have hlj := jar_lt hj
  refine rd_defC [some (.loc j), some (.int (k : Int)), none, none, none] [(1, st.length), (3, st.length + 1), (4, st.length + 2)] [.cell (some (.int (k : Int))), .cell none, .cell none] rfl rfl rfl rfl rfl rfl ?_
  unfold c36
  have f0 : Fx [j] st (st ++ [Ob.cell (some (.int (k : Int))), .cell none, .cell none]) := Fx.app _ _
  have c0 : (st ++ [Ob.cell (some (.int (k : Int))), .cell none, .cell none])[st.length]? = some (.cell (some (.int (k : Int)))) := by simp
  have c1 : (st ++ [Ob.cell (some (.int (k : Int))), .cell none, .cell none])[st.length + 1]? = some (.cell none) := by simp
  have c2 : (st ++ [Ob.cell (some (.int (k : Int))), .cell none, .cell none])[st.length + 2]? = some (.cell none) := by simp
  have j0 := hj.fx (Fx.app (S := []) st [Ob.cell (some (.int (k : Int))), .cell none, .cell none]) (by simp)
  generalize (st ++ [Ob.cell (some (.int (k : Int))), .cell none, .cell none]) = S0 at f0 c0 c1 c2 j0 ⊢
  have hlS := jar_lt j0
  repeat fail
  refine (s_one (E := fun _ _ => False) (n + 6) (j0.fx (Fx.app (S := []) S0 _) (by simp)) app_at (by omega) (by simp) (by simp)).to fun d s1 h => ?_
  obtain ⟨hm, j1, f1⟩ := h
  have hmany : (∃ st', Vld st' d) ∧ isNum d 0 40 = false ∧ Dat 1 d ∧ ∀ s, Vld s d := by
    simp only [List.mem_cons, List.not_mem_nil, or_false] at hm
    rcases hm with rfl | rfl | rfl | rfl | rfl | rfl | rfl
    · exact ⟨⟨[], trivial⟩, rfl, dat_int, fun _ => trivial⟩
    · exact ⟨⟨[], trivial⟩, rfl, dat_int, fun _ => trivial⟩
    · exact ⟨⟨[], trivial⟩, rfl, trivial, fun _ => trivial⟩
    · exact ⟨⟨[], trivial⟩, rfl, trivial, fun _ => trivial⟩
    · exact ⟨⟨[], trivial⟩, rfl, dat_str, fun _ => trivial⟩
    · exact ⟨⟨[], trivial⟩, rfl, dat_ints (ss := [2]) (by simp), fun _ => trivial⟩
    · exact ⟨⟨[], trivial⟩, by unfold isNum; decide +kernel, dat_int, fun _ => trivial⟩
  obtain ⟨_, hnum, hdat, hvld⟩ := hmany
  have f1' : Fx [j] st s1 := f0.trans ((Fx.app _ _).trans f1)
  have hn1 : ∀ {x : Nat}, st.length ≤ x → x ∉ [j] := fun hx => by rw [List.mem_singleton]; omega
  have c0 := ((Fx.app (S := [j]) S0 _).trans f1).get c0 (hn1 (by omega))
  have c1 := ((Fx.app (S := [j]) S0 _).trans f1).get c1 (hn1 (by omega))
  have c2 := ((Fx.app (S := [j]) S0 _).trans f1).get c2 (hn1 (by omega))
  have f2 : Fx [j] st (s1.set (st.length + 1) (.cell (some d))) := f1'.setNew (by omega)
  have j2 : J (s1.set (st.length + 1) (.cell (some d))) j := j1.fx (Fx.set (S := [st.length + 1]) (by simp)) (by rw [List.mem_singleton]; omega)
  have k0 : (s1.set (st.length + 1) (.cell (some d)))[st.length]? = some (.cell (some (.int (k : Int)))) := by rw [List.getElem?_set_ne (by omega)]; exact c0
  have k2 : (s1.set (st.length + 1) (.cell (some d)))[st.length + 2]? = some (.cell none) := by rw [List.getElem?_set_ne (by omega)]; exact c2
  have k1 := set_at (o := .cell (some d)) c1
  repeat fail
  generalize (s1.set (st.length + 1) (.cell (some d))) = S1 at f2 j2 k0 k1 k2 ⊢
  have hlS1 := jar_lt j2
  refine (s_one (E := fun _ _ => False) (n + 6) (j2.fx ((Fx.app (S := []) S1 _).apps _) (by simp)) app2_1 (by simp; omega) (by simp) (by simp)).to fun e s2 h => ?_
  obtain ⟨he, j3, f3⟩ := h
  have gi : s2[S1.length]? = some (.lst [.str "keys 1"]) := f3.get app2_0 (by rw [List.mem_singleton]; omega)
  have hstr : ∀ s, Fx [] s2 s → isiD e .str s = .ok (.bl false) s := by
    intro s f
    simp only [List.mem_cons, List.not_mem_nil, or_false] at he
    rcases he with rfl | rfl | rfl | rfl | rfl
    · rfl
    · rfl
    · exact isi_loc (.inl (f.get gi (by simp))) .str fun c z => by cases z
    · rfl
    · rfl
  have f3' : Fx [j] S1 s2 := ((Fx.app _ _).apps _).trans f3
  have k0 := f3'.get k0 (hn1 (by omega))
  have k1 := f3'.get k1 (hn1 (by omega))
  have k2 := f3'.get k2 (hn1 (by omega))
  have f4 : Fx [j] st (s2.set (st.length + 2) (.cell (some e))) := (f2.trans f3').setNew (by omega)
  have j4 : J (s2.set (st.length + 2) (.cell (some e))) j := j3.fx (Fx.set (S := [st.length + 2]) (by simp)) (by rw [List.mem_singleton]; omega)
  have m0 : (s2.set (st.length + 2) (.cell (some e)))[st.length]? = some (.cell (some (.int (k : Int)))) := by rw [List.getElem?_set_ne (by omega)]; exact k0
  have m1 : (s2.set (st.length + 2) (.cell (some e)))[st.length + 1]? = some (.cell (some d)) := by rw [List.getElem?_set_ne (by omega)]; exact k1
  have m2 := set_at (o := .cell (some e)) k2
  have hstr : ∀ s, Fx [] (s2.set (st.length + 2) (.cell (some e))) s → isiD e .str s = .ok (.bl false) s := by
    intro s f
    simp only [List.mem_cons, List.not_mem_nil, or_false] at he
    rcases he with rfl | rfl | rfl | rfl | rfl
    · rfl
    · rfl
    · refine isi_loc (ds := [.str "keys 1"]) (.inl (f.get ?_ (by simp))) .str fun c z => by cases z
      have := f2.1
      rw [List.getElem?_set_ne (by intro z; rw [z, gi] at k2; cases k2)]
      exact gi
    · rfl
    · rfl
  repeat fail
  generalize (s2.set (st.length + 2) (.cell (some e))) = S2 at f4 j4 m0 m1 m2 hstr ⊢
  refine s_heard (n + 6) 5 ?_
  refine s_lam (n + 6) 5 rfl rfl rfl (cells1 m1) rfl rfl ?_
  repeat fail
  refine s_ktbad (n + 3) (hvld _) hnum ⟨"BadMany", rfl, fun s3 f5 => ?_⟩
  have j5 := j4.fx f5 (by simp)
  have m0 := f5.get m0 (by simp)
  have m1 := f5.get m1 (by simp)
  have m2 := f5.get m2 (by simp)
  have f6 := f4.trans f5.none
  repeat fail
  refine p_methOk (ok_lst (xs := [.tup [.str "BadMany", d]]) app_at (by rw [lm_append]; rfl)) ?_
  repeat fail
  have fa : Fx [] s3 (s3 ++ [Ob.lst [.tup [.str "BadMany", d]]]) := Fx.app _ _
  have hl3 : (s3 ++ [Ob.lst [.tup [.str "BadMany", d]]])[s3.length]? = some (.lst [.tup [.str "BadMany", d]]) := app_at
  generalize (s3 ++ [Ob.lst [.tup [.str "BadMany", d]]]) = S3 at fa hl3 ⊢
  refine s_heard (n + 6) 6 ?_
  refine s_lam (n + 6) 6 rfl rfl rfl (cells2 (fa.get m2 (by simp)) (fa.get m1 (by simp))) rfl rfl ?_
  repeat fail
  refine s_rdbad (n + 3) (hvld _) hnum fun s4 f7 => ⟨"BadMany", rfl, fun s5 f8 => ?_⟩
  have f9 := f7.trans f8
  have hl5 := f9.get hl3 (by simp)
  have fb := fa.trans f9
  repeat fail
  refine p_methD (m_lst hl5 lm_append (app_ok (by simp; omega))) ?_
  repeat fail
  have hl6 := set_at (o := .lst ([D.tup [.str "BadMany", d]] ++ [.tup [.str "BadMany", d]])) hl5
  have fc : Fx [] s3 (s5.set s3.length (.lst ([D.tup [.str "BadMany", d]] ++ [.tup [.str "BadMany", d]]))) := fb.setNew (Nat.le_refl _)
  generalize (s5.set s3.length (.lst ([D.tup [.str "BadMany", d]] ++ [.tup [.str "BadMany", d]]))) = S5 at hl6 fc ⊢
  refine p_methOk (ok_lst hl6 (by rw [lm_append]; rfl)) ?_
  repeat fail
  refine s_heard (n + 6) 7 ?_
  refine s_lam (n + 6) 7 rfl rfl rfl (cells2 (fc.get m2 (by simp)) (fc.get m0 (by simp))) rfl rfl ?_
  repeat fail
  refine s_rdtext (n + 1) k hk (fun s f => hstr s ((f5.trans fc).trans f)) fun s6 f10 => ⟨"BadText", rfl, fun s7 f11 => ?_⟩
  have f12 := f10.trans f11
  have hl7 := f12.get hl6 (by simp)
  have fd := fc.trans f12
  repeat fail
  refine p_methD (m_lst hl7 lm_append (app_ok (by simp; omega))) ?_
  repeat fail
  have hl8 := set_at (o := .lst ([D.tup [.str "BadMany", d]] ++ [.tup [.str "BadMany", d]] ++ [.tup [.str "BadText", .int (-1)]])) hl7
  have fe : Fx [] s3 (s7.set s3.length (.lst ([D.tup [.str "BadMany", d]] ++ [.tup [.str "BadMany", d]] ++ [.tup [.str "BadText", .int (-1)]]))) := fd.setNew (Nat.le_refl _)
  generalize (s7.set s3.length (.lst ([D.tup [.str "BadMany", d]] ++ [.tup [.str "BadMany", d]] ++ [.tup [.str "BadText", .int (-1)]]))) = S7 at hl8 fe ⊢
  have fz := f6.trans fe.none
  have jz := j5.fx fe (by simp)
  have hsame := same_lists (n + 3) 2 (ds := [D.tup [.str "BadMany", d], .tup [.str "BadMany", d], .tup [.str "BadText", .int (-1)]]) ((Fx.app (S := []) S7 [Ob.lst [D.tup [.str "BadMany", d], .tup [.str "BadMany", d], .tup [.str "BadText", .int (-1)]]]).get hl8 (by simp)) app_at (by simp) (fun x hx => by
    simp only [List.mem_cons, List.not_mem_nil, or_false] at hx
    rcases hx with rfl | rfl | rfl
    · exact dat_two dat_str hdat
    · exact dat_two dat_str hdat
    · exact dat_two dat_str dat_int)
  refine (run_eq hsame).mpr ?_
  repeat fail
  exact ⟨rfl, ((jz.fx (Fx.app (S := []) _ _) (by simp)).kill hlj), (fz.trans (Fx.app _ _)).kill (Nat.le_refl _)⟩
end MI.P

set_option Elab.async false
set_option linter.all false
set_option maxRecDepth 100000
set_option maxHeartbeats 4000000
/-! PLAIN, part 22: slices and joins keep texts small and sound. -/
namespace MI.P
open PySem K82
open TL (tl)
local macro_rules | `(tactic| fail) => `(tactic| first
  | with_reducible refine max_ok ?_
  | with_reducible refine min_ok ?_
  | with_reducible refine p_mul ?_ ?_
  | with_reducible refine p_mod ?_ ?_
  | with_reducible refine p_int ?_
  | with_reducible refine p_intb ?_
  | with_reducible refine p_add ?_
  | with_reducible refine p_ge ?_
  | ((with_reducible refine e_var.mpr ?_); refine ⟨_, rfl, ?_⟩)
  | with_reducible refine e_c.mpr ?_
  | with_reducible refine e_gv.mpr ?_
  | with_reducible refine e_bin.mpr ?_
  | with_reducible refine e_cmp.mpr ?_
  | with_reducible refine e_chain.mpr ?_
  | with_reducible refine e_neg.mpr ?_
  | with_reducible refine e_not.mpr ?_
  | with_reducible refine e_and.mpr ?_
  | with_reducible refine e_or.mpr ?_
  | with_reducible refine e_ife.mpr ?_
  | with_reducible refine e_nil.mpr ?_
  | with_reducible refine e_cons.mpr ?_
  | with_reducible refine e_consT.mpr ?_
  | with_reducible refine e_consU.mpr ?_
  | with_reducible refine e_rep.mpr ?_
  | with_reducible refine e_tup.mpr ?_
  | with_reducible refine e_lst.mpr ?_
  | with_reducible refine e_idx.mpr ?_
  | with_reducible refine e_part.mpr ?_
  | with_reducible refine e_sl.mpr ?_
  | with_reducible refine e_attr.mpr ?_
  | with_reducible refine e_call.mpr ?_
  | with_reducible refine e_make.mpr ?_
  | with_reducible refine e_meth.mpr ?_
  | with_reducible refine e_bi.mpr ?_
  | with_reducible refine e_isi.mpr ?_
  | with_reducible refine e_yes.mpr ?_
  | with_reducible refine e_lc.mpr ?_
  | with_reducible refine runS_seq.mpr ?_
  | with_reducible refine t_skip.mpr ?_
  | with_reducible refine t_asg.mpr ?_
  | with_reducible refine t_setf.mpr ?_
  | with_reducible refine t_augf.mpr ?_
  | with_reducible refine t_seti.mpr ?_
  | with_reducible refine t_exp.mpr ?_
  | with_reducible refine t_ite.mpr ?_
  | with_reducible refine t_ret.mpr ?_
  | with_reducible refine t_retn.mpr ?_
  | with_reducible refine t_raise.mpr ?_
  | with_reducible refine t_for.mpr ?_
  | with_reducible refine k_nx ?_
  | with_reducible refine k_rt ?_
  | with_reducible refine k_xx ?_
  | with_reducible refine q_nx ?_
  | with_reducible refine q_rt ?_
  | with_reducible refine q_xx ?_
  | ((with_reducible refine g_isiD ?_); refine p_isiD rfl ?_)
  | ((with_reducible refine g_cmpop ?_); refine p_cmpop rfl ?_)
  | ((with_reducible refine g_binop ?_); refine p_binop rfl ?_)
  | ((with_reducible refine g_consD ?_); refine p_consD rfl ?_)
  | ((with_reducible refine g_biop ?_); refine p_biop rfl ?_)
  | ((with_reducible refine g_idxD ?_); refine p_idxD rfl ?_)
  | ((with_reducible refine g_sliD ?_); refine p_sliD rfl ?_)
  | ((with_reducible refine g_augop ?_); refine p_augop rfl ?_)
  | ((with_reducible refine g_setiD ?_); refine p_setiD rfl ?_)
  | ((with_reducible refine g_srcOf ?_); refine p_srcOf rfl ?_)
  | ((with_reducible refine g_repD ?_); refine p_repD rfl ?_)
  | with_reducible refine b_nm0 ?_
  | ((with_reducible refine b_nm ?h0 ?_); (case h0 => rfl))
  | ((with_reducible refine g_bindT ?_); refine p_bindT rfl ?_)
  | ((with_reducible refine g_itOf ?_); refine p_itOf rfl ?_)
  | ((with_reducible refine e_lam.mpr ?_); refine ⟨_, rfl, ?_⟩)
  | ((with_reducible refine t_aug.mpr ?_); refine ⟨_, rfl, ?_⟩)
  | ((with_reducible refine ex_tup ?h0 ?_); (case h0 => exact Nat.le_of_ble_eq_true rfl))
  | with_reducible refine br_t ?_
  | with_reducible refine br_f ?_
  | with_reducible refine br_nd (fun h => ?_) (fun h => ?_)
  | with_reducible refine br_d (fun h => ?_) (fun h => ?_)
  | ((with_reducible refine br_g ?_); refine br_t ?_)
  | ((with_reducible refine br_g ?_); refine br_f ?_)
  | with_reducible refine br_n (fun h => ?_) (fun h => ?_)
  | with_reducible refine br_b (fun h => ?_) (fun h => ?_)
  | with_reducible refine ⟨_, rfl, ?_⟩)
def TOk (B : Nat) (t : Str) : Prop := cOk t ∧ t.length ≤ B
theorem TOk.le {A B : Nat} {t : Str} (h : TOk A t) (k : A ≤ B) : TOk B t := ⟨h.1, Nat.le_trans h.2 k⟩
theorem tok_app {A B : Nat} {a b : Str} (h : TOk A a) (k : TOk B b) : TOk (A + B) (a ++ b) := by
  refine ⟨fun c hc => ?_, ?_⟩
  · have hc : c ∈ tl (a ++ b) := hc
    rw [TL.tl_append, List.mem_append] at hc
    exact hc.elim (h.1 c) (k.1 c)
  · rw [slen, TL.tl_append, List.length_append, ← slen, ← slen]
    have := h.2
    have := k.2
    omega
theorem tok_cut {B : Nat} {t : Str} {lo hi : Option Int} (h : TOk B t) : TOk B (L2.cutS t lo hi) := by
  refine ⟨fun c hc => ?_, ?_⟩
  · have hc : c ∈ (List.take (HT.sIx t.length t.length hi - HT.sIx t.length 0 lo) (List.drop (HT.sIx t.length 0 lo) t.cps.toList)) := hc
    exact h.1 c (List.mem_of_mem_drop (List.mem_of_mem_take hc))
  · show ((List.take _ (List.drop _ t.cps.toList)).toArray).size ≤ B
    rw [List.size_toArray, List.length_take, List.length_drop]
    have := h.2
    have e : t.cps.toList.length = t.length := (slen t).symm
    omega
/-- a list's weight -/
def wt (ps : List Str) : Nat := (ps.map fun p => p.length + 1).sum
theorem wt_nil : wt [] = 0 := rfl
theorem wt_cons {p : Str} {r : List Str} : wt (p :: r) = p.length + 1 + wt r := by simp [wt]
theorem wt_app {a b : List Str} : wt (a ++ b) = wt a + wt b := by simp [wt]
theorem wt_take {n : Nat} {a : List Str} : wt (a.take n) ≤ wt a := by
  have := wt_app (a := a.take n) (b := a.drop n)
  rw [List.take_append_drop] at this
  omega
theorem wt_drop {n : Nat} {a : List Str} : wt (a.drop n) ≤ wt a := by
  have := wt_app (a := a.take n) (b := a.drop n)
  rw [List.take_append_drop] at this
  omega
theorem wt_cut {lo hi : Option Int} {a : List Str} : wt (cutL a lo hi) ≤ wt a := Nat.le_trans wt_take wt_drop
theorem wt_join {y : Str} (hy : y.length = 1) : ∀ {ps : List Str}, (Str.join y ps).length ≤ wt ps ∧ (ps ≠ [] → (Str.join y ps).length + 1 = wt ps)
  | [] => ⟨Nat.zero_le _, fun h => absurd rfl h⟩
  | [p] => by
    have e : (Str.join y [p]).length = p.length := rfl
    rw [e, wt_cons, wt_nil]
    exact ⟨by omega, fun _ => by omega⟩
  | p :: q :: r => by
    have ih := (wt_join hy (ps := q :: r)).2 (by simp)
    have e : (Str.join y (p :: q :: r)).length = p.length + (y.length + (Str.join y (q :: r)).length) := by
      show (p ++ y ++ Str.join y (q :: r)).length = _
      rw [slen, TL.tl_append, TL.tl_append, List.append_assoc, List.length_append, List.length_append, ← slen, ← slen, ← slen]
    rw [wt_cons, e, hy]
    exact ⟨by omega, fun _ => by omega⟩
theorem wt_split {t y : Str} (hy : y.length = 1) : wt (Txt.split t y) = t.length + 1 := by
  have e := StrLaws.join_split t y
  have := (wt_join hy (ps := Txt.split t y)).2 (split_ne _ _ (.inr (by omega)))
  rw [e] at this
  exact this.symm
theorem wt_sum {ps : List Str} : (ps.map (·.length)).sum + ps.length * 1 = wt ps := by
  induction ps with
  | nil => rfl
  | cons p r ih =>
    rw [wt_cons, List.map_cons, List.sum_cons, List.length_cons]
    omega
theorem wt_len {ps : List Str} : ps.length ≤ wt ps := by
  have := wt_sum (ps := ps)
  omega
theorem mem_cut {α : Type} {lo hi : Option Int} {a : List α} {x : α} (h : x ∈ cutL a lo hi) : x ∈ a := List.mem_of_mem_drop (List.mem_of_mem_take h)
theorem cut_map {α β : Type} {f : α → β} {lo hi : Option Int} {a : List α} : cutL (a.map f) lo hi = (cutL a lo hi).map f := by
  unfold cutL
  rw [List.length_map, List.map_take, List.map_drop]
theorem tok_join {B : Nat} {y : Str} (hy : y.length = 1) (hc : cOk y) {ps : List Str} (h : ∀ p ∈ ps, cOk p) (hw : wt ps ≤ B) : TOk B (Str.join y ps) := ⟨join_ok hc h, Nat.le_trans (wt_join hy).1 hw⟩
theorem ok_nl : cOk "\n" := by
  have : (tl "\n").all (fun c => decide (c < 0x110000)) = true := by decide +kernel
  intro c hc
  exact of_decide_eq_true (List.all_eq_true.mp this c hc)
theorem len_nl1 : ("\n" : Str).length = 1 := by decide +kernel
theorem split_ok {t y : Str} (h : cOk t) : ∀ p ∈ Txt.split t y, cOk p := fun p hp c hc => h c ((split_mem hp).1 c hc)
theorem m_join1 {cf : Nat → List D → M D} {s : Str} {l : Nat} {ys : List Str} {st : Store} (hs : s.length = 1) (h : st[l]? = some (.lst (ys.map D.str))) (hw : wt ys ≤ 1000000) : methD G cf (.str s) "join" [.loc l] st = .ok (.str (Str.join s ys)) st := m_join h (by rw [hs, wt_sum]; omega)
theorem p_str_app {a b : Str} {st : Store} {Q : D → Store → Prop} {E : Ex → Store → Prop} (h : a.length + b.length ≤ 1000000) (k : Q (.str (a ++ b)) st) : Run (binop .add (.str a) (.str b)) st Q E := by
  have hz := sizeL
  refine p_binop (v := .str (a ++ b)) (st' := st) ?_ k
  show bnd (guard (decide (a.length + b.length ≤ sizeLine))) (fun _ => ret (D.str (a ++ b))) st = _
  rw [decide_eq_true (by omega)]
  rfl
theorem p_sl_str {t : Str} {lo hi : D} {l h : Option Int} {st : Store} {Q : D → Store → Prop} {E : Ex → Store → Prop} (e1 : partOf lo = some l) (e2 : partOf hi = some h) (ht : t.length ≤ 1000000) (k : Q (.str (L2.cutS t l h)) st) : Run (sliD (.str t) lo hi) st Q E := by
  have hz := sizeL
  refine p_sliD (v := .str (L2.cutS t l h)) (st' := st) ?_ k
  unfold sliD
  simp only [e1, e2]
  show bnd (guard (decide (t.length ≤ sizeLine))) (fun _ => ret (D.str (L2.cutS t l h))) st = _
  rw [decide_eq_true (by omega)]
  rfl
theorem p_sl_loc {q : Nat} {ds : List D} {lo hi : D} {l h : Option Int} {st : Store} {Q : D → Store → Prop} {E : Ex → Store → Prop} (e1 : partOf lo = some l) (e2 : partOf hi = some h) (hq : st[q]? = some (.lst ds)) (k : Q (.loc st.length) (st ++ [.lst (cutL ds l h)])) : Run (sliD (.loc q) lo hi) st Q E := by
  refine p_sliD (v := .loc st.length) (st' := st ++ [.lst (cutL ds l h)]) ?_ k
  unfold sliD
  simp only [e1, e2]
  unfold bnd seqOf
  simp only [hq]
  rfl
/-- upper of plain signs -/
theorem upper_tok : ∀ (n : Nat) (l : List Nat), l.length = n → (∀ c ∈ l, c < 128) → cOk (Txt.upper ⟨l.toArray⟩) ∧ (Txt.upper ⟨l.toArray⟩).length = n
  | 0, l, hl, _ => by
    rw [List.eq_nil_of_length_eq_zero hl]
    refine ⟨fun c hc => ?_, by decide +kernel⟩
    have e : (Txt.upper ⟨#[]⟩).cps.toList = [] := by decide +kernel
    have hc : c ∈ (Txt.upper ⟨#[]⟩).cps.toList := hc
    rw [e] at hc
    cases hc
  | n + 1, l, hl, h => by
    have hn : l ≠ [] := by
      rintro rfl
      cases hl
    have e : l.dropLast ++ [l.getLast hn] = l := List.dropLast_concat_getLast hn
    generalize l.getLast hn = c at e
    generalize l.dropLast = r at e
    subst e
    have hc := h c (by simp)
    obtain ⟨i1, i2⟩ := upper_tok n r (by simpa using hl) fun x hx => h x (List.mem_append_left _ hx)
    have e1 : (⟨(r ++ [c]).toArray⟩ : Str) = ⟨r.toArray⟩ ++ ⟨#[c]⟩ := by
      apply TL.ext_tl
      rw [TL.tl_append]
    rw [e1, PySem.W.KOpn.upper_app, PySem.W.KOpn.upper_one hc]
    refine ⟨fun x hx => ?_, ?_⟩
    · have hx : x ∈ tl (Txt.upper ⟨r.toArray⟩ ++ ⟨#[if 97 ≤ c ∧ c ≤ 122 then c - 32 else c]⟩) := hx
      rw [TL.tl_append, List.mem_append] at hx
      rcases hx with hx | hx
      · exact i1 x hx
      · have hx : x ∈ [if 97 ≤ c ∧ c ≤ 122 then c - 32 else c] := hx
        rw [List.mem_singleton] at hx
        rw [hx]
        split <;> omega
    · rw [slen, TL.tl_append, List.length_append, ← slen, i2]
      rfl
end MI.P

set_option Elab.async false
set_option linter.all false
set_option maxRecDepth 100000
set_option maxHeartbeats 4000000
/-! PLAIN, part 23: a bent text. -/
namespace MI.P
open PySem K82
open TL (tl)
local macro_rules | `(tactic| fail) => `(tactic| first
  | with_reducible refine max_ok ?_
  | with_reducible refine min_ok ?_
  | with_reducible refine p_mul ?_ ?_
  | with_reducible refine p_mod ?_ ?_
  | with_reducible refine p_int ?_
  | with_reducible refine p_intb ?_
  | with_reducible refine p_add ?_
  | with_reducible refine p_ge ?_
  | ((with_reducible refine e_var.mpr ?_); refine ⟨_, rfl, ?_⟩)
  | with_reducible refine e_c.mpr ?_
  | with_reducible refine e_gv.mpr ?_
  | with_reducible refine e_bin.mpr ?_
  | with_reducible refine e_cmp.mpr ?_
  | with_reducible refine e_chain.mpr ?_
  | with_reducible refine e_neg.mpr ?_
  | with_reducible refine e_not.mpr ?_
  | with_reducible refine e_and.mpr ?_
  | with_reducible refine e_or.mpr ?_
  | with_reducible refine e_ife.mpr ?_
  | with_reducible refine e_nil.mpr ?_
  | with_reducible refine e_cons.mpr ?_
  | with_reducible refine e_consT.mpr ?_
  | with_reducible refine e_consU.mpr ?_
  | with_reducible refine e_rep.mpr ?_
  | with_reducible refine e_tup.mpr ?_
  | with_reducible refine e_lst.mpr ?_
  | with_reducible refine e_idx.mpr ?_
  | with_reducible refine e_part.mpr ?_
  | with_reducible refine e_sl.mpr ?_
  | with_reducible refine e_attr.mpr ?_
  | with_reducible refine e_call.mpr ?_
  | with_reducible refine e_make.mpr ?_
  | with_reducible refine e_meth.mpr ?_
  | with_reducible refine e_bi.mpr ?_
  | with_reducible refine e_isi.mpr ?_
  | with_reducible refine e_yes.mpr ?_
  | with_reducible refine e_lc.mpr ?_
  | with_reducible refine runS_seq.mpr ?_
  | with_reducible refine t_skip.mpr ?_
  | with_reducible refine t_asg.mpr ?_
  | with_reducible refine t_setf.mpr ?_
  | with_reducible refine t_augf.mpr ?_
  | with_reducible refine t_seti.mpr ?_
  | with_reducible refine t_exp.mpr ?_
  | with_reducible refine t_ite.mpr ?_
  | with_reducible refine t_ret.mpr ?_
  | with_reducible refine t_retn.mpr ?_
  | with_reducible refine t_raise.mpr ?_
  | with_reducible refine t_for.mpr ?_
  | with_reducible refine k_nx ?_
  | with_reducible refine k_rt ?_
  | with_reducible refine k_xx ?_
  | with_reducible refine q_nx ?_
  | with_reducible refine q_rt ?_
  | with_reducible refine q_xx ?_
  | ((with_reducible refine g_isiD ?_); refine p_isiD rfl ?_)
  | ((with_reducible refine g_cmpop ?_); refine p_cmpop rfl ?_)
  | ((with_reducible refine g_binop ?_); refine p_binop rfl ?_)
  | ((with_reducible refine g_consD ?_); refine p_consD rfl ?_)
  | ((with_reducible refine g_biop ?_); refine p_biop rfl ?_)
  | ((with_reducible refine g_idxD ?_); refine p_idxD rfl ?_)
  | ((with_reducible refine g_sliD ?_); refine p_sliD rfl ?_)
  | ((with_reducible refine g_augop ?_); refine p_augop rfl ?_)
  | ((with_reducible refine g_setiD ?_); refine p_setiD rfl ?_)
  | ((with_reducible refine g_srcOf ?_); refine p_srcOf rfl ?_)
  | ((with_reducible refine g_repD ?_); refine p_repD rfl ?_)
  | with_reducible refine b_nm0 ?_
  | ((with_reducible refine b_nm ?h0 ?_); (case h0 => rfl))
  | ((with_reducible refine g_bindT ?_); refine p_bindT rfl ?_)
  | ((with_reducible refine g_itOf ?_); refine p_itOf rfl ?_)
  | ((with_reducible refine e_lam.mpr ?_); refine ⟨_, rfl, ?_⟩)
  | ((with_reducible refine t_aug.mpr ?_); refine ⟨_, rfl, ?_⟩)
  | ((with_reducible refine ex_tup ?h0 ?_); (case h0 => exact Nat.le_of_ble_eq_true rfl))
  | with_reducible refine br_t ?_
  | with_reducible refine br_f ?_
  | with_reducible refine br_nd (fun h => ?_) (fun h => ?_)
  | with_reducible refine br_d (fun h => ?_) (fun h => ?_)
  | ((with_reducible refine br_g ?_); refine br_t ?_)
  | ((with_reducible refine br_g ?_); refine br_f ?_)
  | with_reducible refine br_n (fun h => ?_) (fun h => ?_)
  | with_reducible refine br_b (fun h => ?_) (fun h => ?_)
  | with_reducible refine ⟨_, rfl, ?_⟩)
def bentL : List Str := [" ", "\n", "-", "0", "1", "7", ",",
  "a", "none", "x", "never",
  "5", "2", "limit"]
theorem bent_ok : ∀ x ∈ bentL, TOk 5 x := by
  have : bentL.all (fun x => (tl x).all (fun c => decide (c < 0x110000)) && decide (x.length ≤ 5)) = true := by decide +kernel
  intro x hx
  have := List.all_eq_true.mp this x hx
  rw [Bool.and_eq_true, decide_eq_true_eq] at this
  exact ⟨fun c hc => of_decide_eq_true (List.all_eq_true.mp this.1 c hc), this.2⟩
theorem cut_strs {lo hi : Option Int} {ps : List Str} : cutL (ps.map D.str) lo hi = (cutL ps lo hi).map D.str := cut_map
theorem s_bent (n : Nat) {j : Nat} {t : Str} {B : Nat} {st : Store} (hj : J st j) (ht : TOk B t) (hB : B ≤ 100000) : Run ((calls G (n + 3)).1 27 [.loc j, .str t]) st (fun d s => ∃ w, d = .str w ∧ TOk (2 * B + 5) w ∧ J s j ∧ Fx [j] st s) fun _ _ => False := by
  have hz := sizeL
  have hlj := jar_lt hj
  have hB' := ht.2
  refine rd_def [some (.loc j), some (.str t), none, none, none, none, none] rfl rfl rfl rfl rfl ?_
  unfold c27
  repeat fail
  refine (s_take (E := fun _ _ => False) (n + 1) hj (by omega) (by omega)).to fun d s1 h => ?_
  obtain ⟨r1, rfl, hr1, j1, f1⟩ := h
  repeat fail
  refine p_biop (len_str (by omega)) ?_
  repeat fail
  refine (s_take (E := fun _ _ => False) (n + 1) j1 (by omega) (by omega)).to fun d s2 h => ?_
  obtain ⟨r2, rfl, hr2, j2, f2⟩ := h
  repeat fail
  refine p_methOk (ok_str (by rw [sm_split]; rfl)) ?_
  repeat fail
  refine p_methD (m_split len_nl (by omega)) ?_
  repeat fail
  have hl2 : (s2 ++ [Ob.lst ((Txt.split t "\n").map .str)])[s2.length]? = some (.lst ((Txt.split t "\n").map .str)) := app_at
  have f3 : Fx [j] st (s2 ++ [Ob.lst ((Txt.split t "\n").map .str)]) := (f1.trans f2).apps _
  have j3 := j2.fx (Fx.app (S := []) s2 [Ob.lst ((Txt.split t "\n").map .str)]) (by simp)
  have hn2 : s2.length ≠ j := by have := jar_lt j2; omega
  generalize (s2 ++ [Ob.lst ((Txt.split t "\n").map .str)]) = S2 at hl2 f3 j3 ⊢
  generalize s2.length = q at hl2 hn2 ⊢
  have hL0 : 0 < (Txt.split t "\n").length := List.length_pos_iff.mpr (split_ne _ _ (.inr len_nl))
  have hLw : wt (Txt.split t "\n") ≤ B + 1 := by rw [wt_split len_nl1]; omega
  have hLl : (Txt.split t "\n").length ≤ B + 1 := Nat.le_trans wt_len hLw
  refine p_biop (len_loc (.inl hl2)) ?_
  repeat fail
  rw [List.length_map]
  refine (s_take (E := fun _ _ => False) (n + 1) j3 (by omega) (by omega)).to fun d s4 h => ?_
  obtain ⟨r3, rfl, hr3, j4, f4⟩ := h
  have hl4 := f4.get hl2 (by rw [List.mem_singleton]; exact hn2)
  have f5 := f3.trans f4
  have hlj4 := jar_lt j4
  repeat fail
  · refine p_sl_str rfl rfl (by omega) ?_
    repeat fail
    refine p_sl_str rfl rfl (by omega) ?_
    repeat fail
    have k1 := tok_cut (lo := none) (hi := some (r2 : Int)) ht
    have k2 := tok_cut (lo := some ((r2 : Int) + 1)) (hi := none) ht
    refine p_str_app (by have := k1.2; have := k2.2; omega) ?_
    repeat fail
    exact ⟨(tok_app k1 k2).le (by omega), j4, f5⟩
  · repeat fail
    · have jm := j4.fx (Fx.app (S := []) s4 [Ob.lst (bentL.map .str)]) (by simp)
      refine (s_one (E := fun _ _ => False) (n) jm app_at (by omega) (by decide +kernel) (by decide +kernel)).to fun d s5 h => ?_
      obtain ⟨hs, j5, f6⟩ := h
      obtain ⟨w, hw, rfl⟩ := List.mem_map.mp hs
      have kw := bent_ok w hw
      have f7 := f5.trans ((Fx.app _ _).trans f6)
      repeat fail
      refine p_sl_str rfl rfl (by omega) ?_
      repeat fail
      have k1 := tok_cut (lo := none) (hi := some (r2 : Int)) ht
      refine p_str_app (by have := k1.2; have := kw.2; omega) ?_
      repeat fail
      refine p_sl_str rfl rfl (by omega) ?_
      repeat fail
      have k2 : ∀ v : Int, TOk B (L2.cutS t (some v) none) := fun v => tok_cut ht
      refine p_str_app (by have := (tok_app k1 kw).2; have := (k2 ((r2 : Int) + if decide ((r1 : Int) = 3) = true then 1 else 0)).2; omega) ?_
      repeat fail
      exact ⟨(tok_app (tok_app k1 kw) (k2 _)).le (by omega), j5, f7⟩
    · repeat fail
      · refine p_methOk (ok_str (by rw [sm_join]; rfl)) ?_
        repeat fail
        refine p_sl_loc rfl rfl hl4 ?_
        repeat fail
        have hl5 := (Fx.app (S := []) s4 [Ob.lst (cutL ((Txt.split t "\n").map D.str) none (some ((r3 : Int) + 1)))]).get hl4 (by simp)
        refine p_sl_loc rfl rfl hl5 ?_
        repeat fail
        refine p_binop (add_loc app2_0 app2_1 (by have := wt_len (ps := cutL (Txt.split t "\n") none (some ((r3 : Int) + 1))); have := wt_cut (a := Txt.split t "\n") (lo := none) (hi := some ((r3 : Int) + 1)); have := wt_len (ps := cutL (Txt.split t "\n") (some ((r3 : Int))) none); have := wt_cut (a := Txt.split t "\n") (lo := some ((r3 : Int))) (hi := none); rw [cut_strs, cut_strs, List.length_map, List.length_map]; omega)) ?_
        repeat fail
        have hw : wt (cutL (Txt.split t "\n") none (some ((r3 : Int) + 1)) ++ cutL (Txt.split t "\n") (some ((r3 : Int))) none) ≤ 2 * B + 2 := by
          rw [wt_app]
          have := wt_cut (a := Txt.split t "\n") (lo := none) (hi := some ((r3 : Int) + 1))
          have := wt_cut (a := Txt.split t "\n") (lo := some ((r3 : Int))) (hi := none)
          omega
        refine p_methD (m_join1 len_nl1 (ys := cutL (Txt.split t "\n") none (some ((r3 : Int) + 1)) ++ cutL (Txt.split t "\n") (some ((r3 : Int))) none) (by rw [List.map_append, ← cut_strs, ← cut_strs]; exact app_at) (by omega)) ?_
        repeat fail
        refine ⟨(tok_join len_nl1 ok_nl (fun p hp => ?_) hw).le (by omega), ?_, ((f5.apps _).apps _).apps _⟩
        · rcases List.mem_append.mp hp with h | h
          · exact split_ok ht.1 p (mem_cut h)
          · exact split_ok ht.1 p (mem_cut h)
        · exact j4.fx (((Fx.app (S := []) _ _).apps _).apps _) (by simp)
      · repeat fail
        refine p_methOk (ok_str (by rw [sm_join]; rfl)) ?_
        repeat fail
        refine p_sl_loc rfl rfl hl4 ?_
        repeat fail
        have hl5 := (Fx.app (S := []) s4 [Ob.lst (cutL ((Txt.split t "\n").map D.str) none (some ((r3 : Int))))]).get hl4 (by simp)
        refine p_sl_loc rfl rfl hl5 ?_
        repeat fail
        refine p_binop (add_loc app2_0 app2_1 (by have := wt_len (ps := cutL (Txt.split t "\n") none (some ((r3 : Int)))); have := wt_cut (a := Txt.split t "\n") (lo := none) (hi := some ((r3 : Int))); have := wt_len (ps := cutL (Txt.split t "\n") (some ((r3 : Int) + 1)) none); have := wt_cut (a := Txt.split t "\n") (lo := some ((r3 : Int) + 1)) (hi := none); rw [cut_strs, cut_strs, List.length_map, List.length_map]; omega)) ?_
        repeat fail
        have hw : wt (cutL (Txt.split t "\n") none (some ((r3 : Int))) ++ cutL (Txt.split t "\n") (some ((r3 : Int) + 1)) none) ≤ 2 * B + 2 := by
          rw [wt_app]
          have := wt_cut (a := Txt.split t "\n") (lo := none) (hi := some ((r3 : Int)))
          have := wt_cut (a := Txt.split t "\n") (lo := some ((r3 : Int) + 1)) (hi := none)
          omega
        refine p_methD (m_join1 len_nl1 (ys := cutL (Txt.split t "\n") none (some ((r3 : Int))) ++ cutL (Txt.split t "\n") (some ((r3 : Int) + 1)) none) (by rw [List.map_append, ← cut_strs, ← cut_strs]; exact app_at) (by omega)) ?_
        repeat fail
        refine ⟨(tok_join len_nl1 ok_nl (fun p hp => ?_) hw).le (by omega), ?_, ((f5.apps _).apps _).apps _⟩
        · rcases List.mem_append.mp hp with h | h
          · exact split_ok ht.1 p (mem_cut h)
          · exact split_ok ht.1 p (mem_cut h)
        · exact j4.fx (((Fx.app (S := []) _ _).apps _).apps _) (by simp)
end MI.P

set_option Elab.async false
set_option linter.all false
set_option maxRecDepth 100000
set_option maxHeartbeats 4000000
/-! PLAIN, part 24: some texts. -/
namespace MI.P
open PySem K82
open TL (tl)
local macro_rules | `(tactic| fail) => `(tactic| first
  | with_reducible refine max_ok ?_
  | with_reducible refine min_ok ?_
  | with_reducible refine p_mul ?_ ?_
  | with_reducible refine p_mod ?_ ?_
  | with_reducible refine p_int ?_
  | with_reducible refine p_intb ?_
  | with_reducible refine p_add ?_
  | with_reducible refine p_ge ?_
  | ((with_reducible refine e_var.mpr ?_); refine ⟨_, rfl, ?_⟩)
  | with_reducible refine e_c.mpr ?_
  | with_reducible refine e_gv.mpr ?_
  | with_reducible refine e_bin.mpr ?_
  | with_reducible refine e_cmp.mpr ?_
  | with_reducible refine e_chain.mpr ?_
  | with_reducible refine e_neg.mpr ?_
  | with_reducible refine e_not.mpr ?_
  | with_reducible refine e_and.mpr ?_
  | with_reducible refine e_or.mpr ?_
  | with_reducible refine e_ife.mpr ?_
  | with_reducible refine e_nil.mpr ?_
  | with_reducible refine e_cons.mpr ?_
  | with_reducible refine e_consT.mpr ?_
  | with_reducible refine e_consU.mpr ?_
  | with_reducible refine e_rep.mpr ?_
  | with_reducible refine e_tup.mpr ?_
  | with_reducible refine e_lst.mpr ?_
  | with_reducible refine e_idx.mpr ?_
  | with_reducible refine e_part.mpr ?_
  | with_reducible refine e_sl.mpr ?_
  | with_reducible refine e_attr.mpr ?_
  | with_reducible refine e_call.mpr ?_
  | with_reducible refine e_make.mpr ?_
  | with_reducible refine e_meth.mpr ?_
  | with_reducible refine e_bi.mpr ?_
  | with_reducible refine e_isi.mpr ?_
  | with_reducible refine e_yes.mpr ?_
  | with_reducible refine e_lc.mpr ?_
  | with_reducible refine runS_seq.mpr ?_
  | with_reducible refine t_skip.mpr ?_
  | with_reducible refine t_asg.mpr ?_
  | with_reducible refine t_setf.mpr ?_
  | with_reducible refine t_augf.mpr ?_
  | with_reducible refine t_seti.mpr ?_
  | with_reducible refine t_exp.mpr ?_
  | with_reducible refine t_ite.mpr ?_
  | with_reducible refine t_ret.mpr ?_
  | with_reducible refine t_retn.mpr ?_
  | with_reducible refine t_raise.mpr ?_
  | with_reducible refine t_for.mpr ?_
  | with_reducible refine k_nx ?_
  | with_reducible refine k_rt ?_
  | with_reducible refine k_xx ?_
  | with_reducible refine q_nx ?_
  | with_reducible refine q_rt ?_
  | with_reducible refine q_xx ?_
  | ((with_reducible refine g_isiD ?_); refine p_isiD rfl ?_)
  | ((with_reducible refine g_cmpop ?_); refine p_cmpop rfl ?_)
  | ((with_reducible refine g_binop ?_); refine p_binop rfl ?_)
  | ((with_reducible refine g_consD ?_); refine p_consD rfl ?_)
  | ((with_reducible refine g_biop ?_); refine p_biop rfl ?_)
  | ((with_reducible refine g_idxD ?_); refine p_idxD rfl ?_)
  | ((with_reducible refine g_sliD ?_); refine p_sliD rfl ?_)
  | ((with_reducible refine g_augop ?_); refine p_augop rfl ?_)
  | ((with_reducible refine g_setiD ?_); refine p_setiD rfl ?_)
  | ((with_reducible refine g_srcOf ?_); refine p_srcOf rfl ?_)
  | ((with_reducible refine g_repD ?_); refine p_repD rfl ?_)
  | with_reducible refine b_nm0 ?_
  | ((with_reducible refine b_nm ?h0 ?_); (case h0 => rfl))
  | ((with_reducible refine g_bindT ?_); refine p_bindT rfl ?_)
  | ((with_reducible refine g_itOf ?_); refine p_itOf rfl ?_)
  | ((with_reducible refine e_lam.mpr ?_); refine ⟨_, rfl, ?_⟩)
  | ((with_reducible refine t_aug.mpr ?_); refine ⟨_, rfl, ?_⟩)
  | ((with_reducible refine ex_tup ?h0 ?_); (case h0 => exact Nat.le_of_ble_eq_true rfl))
  | with_reducible refine br_t ?_
  | with_reducible refine br_f ?_
  | with_reducible refine br_nd (fun h => ?_) (fun h => ?_)
  | with_reducible refine br_d (fun h => ?_) (fun h => ?_)
  | ((with_reducible refine br_g ?_); refine br_t ?_)
  | ((with_reducible refine br_g ?_); refine br_f ?_)
  | with_reducible refine br_n (fun h => ?_) (fun h => ?_)
  | with_reducible refine br_b (fun h => ?_) (fun h => ?_)
  | with_reducible refine ⟨_, rfl, ?_⟩)
theorem join_gen {y : Str} : ∀ {ps : List Str}, (Str.join y ps).length ≤ (ps.map (·.length)).sum + ps.length * y.length
  | [] => Nat.zero_le _
  | [p] => by
    show p.length ≤ _
    simp
  | p :: q :: r => by
    have ih := join_gen (y := y) (ps := q :: r)
    have e : (Str.join y (p :: q :: r)).length = p.length + (y.length + (Str.join y (q :: r)).length) := by
      show (p ++ y ++ Str.join y (q :: r)).length = _
      rw [slen, TL.tl_append, TL.tl_append, List.append_assoc, List.length_append, List.length_append, ← slen, ← slen, ← slen]
    rw [e, List.map_cons, List.sum_cons, List.length_cons, Nat.add_mul, Nat.one_mul]
    omega
theorem tok_rep {B : Nat} {t : Str} (h : TOk B t) : TOk (2 * B + 2) (Txt.replace t " " "  ") := by
  have e : (" " : Str) = ⟨#[32]⟩ := by decide +kernel
  have e2 : ("  " : Str).length = 2 := by decide +kernel
  have k2 : cOk "  " := by
    have : (tl "  ").all (fun c => decide (c < 0x110000)) = true := by decide +kernel
    intro c hc
    exact of_decide_eq_true (List.all_eq_true.mp this c hc)
  rw [e, StrLaws.replace_one, ← e]
  refine ⟨join_ok k2 (split_ok h.1), Nat.le_trans join_gen ?_⟩
  have h1 := wt_sum (ps := Txt.split t " ")
  have h2 := wt_split (t := t) len_sp1
  have h3 := wt_len (ps := Txt.split t " ")
  have := h.2
  rw [e2]
  omega
theorem p_rep {t : Str} {st : Store} {Q : D → Store → Prop} {E : Ex → Store → Prop} (h : t.length ≤ 100000) (k : Q (.str (Txt.replace t " " "  ")) st) : Run (repD " " "  " (.str t)) st Q E := by
  refine p_repD (v := .str (Txt.replace t " " "  ")) (st' := st) ?_ k
  have e2 : ("  " : Str).length = 2 := by decide +kernel
  show bnd (guard (decide (t.length + (t.length + 1) * ("  " : Str).length ≤ 16777216))) (fun _ => ret (D.str (PySem.Txt.replace t " " "  "))) st = _
  rw [decide_eq_true (by rw [e2]; omega)]
  rfl
theorem sm_upper : smOf "upper" = some .upper := by
  unfold smOf
  rw [if_pos rfl]
theorem m_upper {cf : Nat → List D → M D} {s : Str} {st : Store} (h : s.length ≤ 100000) : methD G cf (.str s) "upper" [] st = .ok (.str (Txt.upper s)) st := by
  show (match smOf "upper" with
    | some k => strM k s []
    | none => no) st = _
  rw [sm_upper]
  show bnd (guard (decide (s.length ≤ 5592405))) (fun _ => ret (D.str (PySem.Txt.upper s))) st = _
  rw [decide_eq_true (by omega)]
  rfl
theorem tok_lit {s : Str} {n : Nat} (h : ((tl s).all (fun c => decide (c < 0x110000)) && decide (s.length ≤ n)) = true) : TOk n s := by
  rw [Bool.and_eq_true, decide_eq_true_eq] at h
  exact ⟨fun c hc => of_decide_eq_true (List.all_eq_true.mp h.1 c hc), h.2⟩
def firstTexts (t : Str) : List Str := [t ++ "\n", t ++ "\n" ++ t, "\n" ++ t, "", " ", t ++ " ", " " ++ t, Txt.replace t " " "  ", Txt.upper t, "key" ++ L2.cutS t (some 4) none, t ++ " 0"]
theorem first_ok {t : Str} (h : TOk 1000 t) (ha : ∀ c ∈ tl t, c < 128) : ∀ w ∈ firstTexts t, TOk 3000 w := by
  have l1 : TOk 1 "\n" := tok_lit (by decide +kernel)
  have l2 : TOk 1 " " := tok_lit (by decide +kernel)
  have l3 : TOk 0 "" := tok_lit (by decide +kernel)
  have l4 : TOk 3 "key" := tok_lit (by decide +kernel)
  have l5 : TOk 2 " 0" := tok_lit (by decide +kernel)
  have hu : TOk 1000 (Txt.upper t) := by
    obtain ⟨u1, u2⟩ := upper_tok _ (tl t) rfl ha
    have e : (⟨(tl t).toArray⟩ : Str) = t := TL.ext_tl rfl
    rw [e] at u1 u2
    exact ⟨u1, by rw [u2, ← slen]; exact h.2⟩
  intro w hw
  simp only [firstTexts, List.mem_cons, List.not_mem_nil, or_false] at hw
  rcases hw with rfl | rfl | rfl | rfl | rfl | rfl | rfl | rfl | rfl | rfl | rfl
  · exact (tok_app h l1).le (by omega)
  · exact (tok_app (tok_app h l1) h).le (by omega)
  · exact (tok_app l1 h).le (by omega)
  · exact l3.le (by omega)
  · exact l2.le (by omega)
  · exact (tok_app h l2).le (by omega)
  · exact (tok_app l2 h).le (by omega)
  · exact (tok_rep h).le (by omega)
  · exact hu.le (by omega)
  · exact (tok_app l4 (tok_cut h)).le (by omega)
  · exact (tok_app h l5).le (by omega)
theorem p_app_w {a b : Str} {st : Store} {Q : D → Store → Prop} {E : Ex → Store → Prop} (n : Nat) (ha : a.length ≤ n) (hb : b.length ≤ n) (hn : n ≤ 400000) (k : Q (.str (a ++ b)) st) : Run (binop .add (.str a) (.str b)) st Q E := p_str_app (by omega) k
def Cx (st : Store) (j : Nat) (A B : List D) (S : Store) : Prop := S[st.length]? = some (.lst A) ∧ S[st.length + 1]? = some (.lst B) ∧ J S j ∧ Fx [j] st S
theorem Cx.app {st S : Store} {j : Nat} {A B : List D} (h : Cx st j A B S) (o : Ob) : Cx st j A B (S ++ [o]) := ⟨(Fx.app (S := []) S [o]).get h.1 (by simp), (Fx.app (S := []) S [o]).get h.2.1 (by simp), h.2.2.1.fx (Fx.app (S := []) S [o]) (by simp), h.2.2.2.apps _⟩
theorem Cx.fx {st S S' : Store} {j : Nat} {A B : List D} (h : Cx st j A B S) (f : Fx [j] S S') (hj : J S' j) (hl : j < st.length) : Cx st j A B S' := ⟨f.get h.1 (by rw [List.mem_singleton]; omega), f.get h.2.1 (by rw [List.mem_singleton]; omega), hj, h.2.2.2.trans f⟩
theorem s_texts (n : Nat) {j : Nat} {t : Str} {st : Store} (hj : J st j) (ht : TOk 1000 t) (ha : ∀ c ∈ tl t, c < 128) : Run ((calls G (n + 4)).1 33 [.loc j, .str t]) st (fun d s => ∃ (l : Nat) (ws : List Str), d = .loc l ∧ s[l]? = some (.lst (ws.map D.str)) ∧ ws.length ≤ 100 ∧ (∀ w ∈ ws, TOk 100000 w) ∧ st.length ≤ l ∧ J s j ∧ Fx [j] st s) fun _ _ => False := by
  have hz := sizeL
  have hlj := jar_lt hj
  have htl := ht.2
  have l1 : TOk 1 "\n" := tok_lit (by decide +kernel)
  have l2 : TOk 1 " " := tok_lit (by decide +kernel)
  have l4 : TOk 3 "key" := tok_lit (by decide +kernel)
  have l5 : TOk 2 " 0" := tok_lit (by decide +kernel)
  have lc := (tok_cut (lo := some 4) (hi := none) ht).2
  have lt1 := (tok_app ht l1).2
  refine rd_def [some (.loc j), some (.str t), none, none, none, none] rfl rfl rfl rfl rfl ?_
  unfold c33
  repeat fail
  refine p_methOk (ok_str (by rw [sm_split]; rfl)) ?_
  repeat fail
  refine p_methD (m_split len_sp (by omega)) ?_
  repeat fail
  refine p_app_w 5000 (by omega) (by have := l1.2; omega) (by omega) ?_
  repeat fail
  refine p_app_w 5000 (by omega) (by have := l1.2; omega) (by omega) ?_
  repeat fail
  refine p_app_w 5000 (by omega) (by omega) (by omega) ?_
  repeat fail
  refine p_app_w 5000 (by have := l1.2; omega) (by omega) (by omega) ?_
  repeat fail
  refine p_app_w 5000 (by omega) (by have := l2.2; omega) (by omega) ?_
  repeat fail
  refine p_app_w 5000 (by have := l2.2; omega) (by omega) (by omega) ?_
  repeat fail
  refine p_rep (by omega) ?_
  repeat fail
  refine p_methOk (ok_str (by rw [sm_upper]; rfl)) ?_
  repeat fail
  refine p_methD (m_upper (by omega)) ?_
  repeat fail
  refine p_sl_str rfl rfl (by omega) ?_
  repeat fail
  refine p_app_w 5000 (by have := l4.2; omega) (by omega) (by omega) ?_
  repeat fail
  refine p_app_w 5000 (by omega) (by have := l5.2; omega) (by omega) ?_
  repeat fail
  have hW := wt_split (t := t) len_sp1
  have hWl := wt_len (ps := Txt.split t " ")
  have hW0 : 0 < (Txt.split t " ").length := List.length_pos_iff.mpr (split_ne _ _ (.inr len_sp))
  have hWc := split_ok (y := " ") ht.1
  have q0 : (st ++ [Ob.lst ((Txt.split t " ").map D.str)] ++ [Ob.lst ((firstTexts t).map D.str)])[st.length]? = some (.lst ((Txt.split t " ").map D.str)) := app2_0
  have q1 : (st ++ [Ob.lst ((Txt.split t " ").map D.str)] ++ [Ob.lst ((firstTexts t).map D.str)])[st.length + 1]? = some (.lst ((firstTexts t).map D.str)) := by simp
  have qf : Fx [j] st (st ++ [Ob.lst ((Txt.split t " ").map D.str)] ++ [Ob.lst ((firstTexts t).map D.str)]) := (Fx.app _ _).apps _
  have qj : J (st ++ [Ob.lst ((Txt.split t " ").map D.str)] ++ [Ob.lst ((firstTexts t).map D.str)]) j := hj.fx ((Fx.app (S := []) _ _).apps _) (by simp)
  have ef : (firstTexts t).map D.str = [D.str (t ++ "\n"), D.str (t ++ "\n" ++ t), D.str ("\n" ++ t), D.str "", D.str " ", D.str (t ++ " "), D.str (" " ++ t), D.str (Txt.replace t " " "  "), D.str (Txt.upper t), D.str ("key" ++ L2.cutS t (some 4) none), D.str (t ++ " 0")] := rfl
  have ep : (st ++ [Ob.lst ((Txt.split t " ").map D.str)]).length = st.length + 1 := by simp
  rw [← ef, ep]
  generalize (st ++ [Ob.lst ((Txt.split t " ").map D.str)] ++ [Ob.lst ((firstTexts t).map D.str)]) = S0 at q0 q1 qf qj ⊢
  refine p_biop (len_loc (.inl q0)) ?_
  repeat fail
  rw [List.length_map]
  have hmin : ∃ m : Nat, (if (6 : Int) < ((Txt.split t " ").length : Int) then (6 : Int) else ((Txt.split t " ").length : Int)) = (m : Int) ∧ m ≤ 6 ∧ m ≤ (Txt.split t " ").length := by
    by_cases c : (6 : Int) < ((Txt.split t " ").length : Int)
    · exact ⟨6, by rw [if_pos c]; rfl, by omega, by omega⟩
    · exact ⟨_, by rw [if_neg c], by omega, by omega⟩
  obtain ⟨m, em, hm6, hml⟩ := hmin
  rw [em]
  with_reducible refine p_itOf (itr (by omega)) ?_
  refine for_run (fun r fr s => ∃ (i : Nat) (z : Option D) (ws : List Str), r = ((List.range' i (m - i)).map fun (k : Nat) => D.int (k : Int)) ∧ i ≤ m ∧ fr = ⟨[some (.loc j), some (.str t), some (.loc st.length), some (.loc (st.length + 1)), z, none], []⟩ ∧ s[st.length]? = some (.lst ((Txt.split t " ").map D.str)) ∧ s[st.length + 1]? = some (.lst (ws.map D.str)) ∧ ws.length ≤ 11 + 3 * i ∧ (∀ w ∈ ws, TOk 100000 w) ∧ J s j ∧ Fx [j] st s) (fun _ _ _ _ => rfl) ?_ ?_ _ _ _ ⟨0, none, firstTexts t, rfl, Nat.zero_le _, rfl, q0, q1, Nat.le_refl _, fun w hw => (first_ok ht ha w hw).le (by omega), qj, qf⟩
  · rintro d r fr s ⟨i, z, ws, e, hi, rfl, p0, p1, lw, mw, jj, f⟩
    have hlt : i < m := by
      rcases Nat.lt_or_ge i m with z | z
      · exact z
      · rw [show m - i = 0 by omega] at e
        cases e
    rw [show m - i = (m - (i + 1)) + 1 by omega, List.range'_succ, List.map_cons] at e
    obtain ⟨rfl, rfl⟩ := List.cons.inj e
    refine runS_ex.mpr ?_
    repeat fail
    refine p_methOk (ok_lst p1 (by rw [lm_extend]; rfl)) ?_
    have c0 : Cx st j ((Txt.split t " ").map D.str) (ws.map D.str) s := ⟨p0, p1, jj, f⟩
    repeat fail
    refine p_methOk (ok_str (by rw [sm_join]; rfl)) ?_
    repeat fail
    refine p_sl_loc rfl rfl c0.1 ?_
    have ca1 := c0.app (.lst (cutL ((Txt.split t " ").map D.str) none (some ((i : Int)))))
    repeat fail
    have wa1 := wt_cut (a := (Txt.split t " ")) (lo := none) (hi := some ((i : Int)))
    have la1 := wt_len (ps := cutL (Txt.split t " ") none (some ((i : Int))))
    have wb1 := wt_cut (a := (Txt.split t " ")) (lo := some ((i : Int) + 1)) (hi := none)
    have lb1 := wt_len (ps := cutL (Txt.split t " ") (some ((i : Int) + 1)) none)
    refine (s_oddword n ca1.2.2.1).to fun d s1 h => ?_
    obtain ⟨w1, rfl, wo1, wl1, jw1, fw1⟩ := h
    have hA1 := fw1.get app_at (by rw [List.mem_singleton]; have := jar_lt c0.2.2.1; omega)
    have cb1 := ((ca1.fx fw1 jw1 hlj).app (.lst [.str w1]))
    repeat fail
    refine p_binop (add_loc ((Fx.app (S := []) _ _).get hA1 (by simp)) app_at (by rw [cut_strs, List.length_map]; simp; omega)) ?_
    have cc1 := cb1.app (.lst (cutL ((Txt.split t " ").map D.str) none (some ((i : Int))) ++ [.str w1]))
    repeat fail
    refine p_sl_loc rfl rfl cc1.1 ?_
    have cd1 := cc1.app (.lst (cutL ((Txt.split t " ").map D.str) (some ((i : Int) + 1)) none))
    repeat fail
    refine p_binop (add_loc app2_0 app2_1 (by rw [cut_strs, cut_strs, List.length_append, List.length_map, List.length_map]; simp; omega)) ?_
    have ce1 := cd1.app (.lst ((cutL ((Txt.split t " ").map D.str) none (some ((i : Int))) ++ [.str w1]) ++ cutL ((Txt.split t " ").map D.str) (some ((i : Int) + 1)) none))
    repeat fail
    have hw1 : wt (cutL (Txt.split t " ") none (some ((i : Int))) ++ [w1] ++ cutL (Txt.split t " ") (some ((i : Int) + 1)) none) ≤ 3000 := by
      rw [wt_app, wt_app, wt_cons, wt_nil]
      omega
    refine p_methD (m_join1 len_sp1 (ys := cutL (Txt.split t " ") none (some ((i : Int))) ++ [w1] ++ cutL (Txt.split t " ") (some ((i : Int) + 1)) none) (by
      first
        | (rw [cut_strs, cut_strs] at *; simp only [List.map_append, List.map_cons, List.map_nil]; exact app_at)
        | (simp only [List.map_append, List.map_cons, List.map_nil, ← cut_strs]; exact app_at)) (by omega)) ?_
    have t1 : TOk 3000 (Str.join " " (cutL (Txt.split t " ") none (some ((i : Int))) ++ [w1] ++ cutL (Txt.split t " ") (some ((i : Int) + 1)) none)) := tok_join len_sp1 ok_sp (fun p hp => by
      simp only [List.mem_append, List.mem_singleton] at hp
      rcases hp with (h | h) | h
      · exact hWc p (mem_cut h)
      · rw [h]; exact wo1
      · exact hWc p (mem_cut h)) hw1
    repeat fail
    refine p_methOk (ok_str (by rw [sm_join]; rfl)) ?_
    repeat fail
    refine p_sl_loc rfl rfl ce1.1 ?_
    have ca2 := ce1.app (.lst (cutL ((Txt.split t " ").map D.str) none (some ((i : Int)))))
    repeat fail
    have wa2 := wt_cut (a := (Txt.split t " ")) (lo := none) (hi := some ((i : Int)))
    have la2 := wt_len (ps := cutL (Txt.split t " ") none (some ((i : Int))))
    have wb2 := wt_cut (a := (Txt.split t " ")) (lo := some ((i : Int))) (hi := none)
    have lb2 := wt_len (ps := cutL (Txt.split t " ") (some ((i : Int))) none)
    refine (s_oddword n ca2.2.2.1).to fun d s2 h => ?_
    obtain ⟨w2, rfl, wo2, wl2, jw2, fw2⟩ := h
    have hA2 := fw2.get app_at (by rw [List.mem_singleton]; have := jar_lt ce1.2.2.1; omega)
    have cb2 := ((ca2.fx fw2 jw2 hlj).app (.lst [.str w2]))
    repeat fail
    refine p_binop (add_loc ((Fx.app (S := []) _ _).get hA2 (by simp)) app_at (by rw [cut_strs, List.length_map]; simp; omega)) ?_
    have cc2 := cb2.app (.lst (cutL ((Txt.split t " ").map D.str) none (some ((i : Int))) ++ [.str w2]))
    repeat fail
    refine p_sl_loc rfl rfl cc2.1 ?_
    have cd2 := cc2.app (.lst (cutL ((Txt.split t " ").map D.str) (some ((i : Int))) none))
    repeat fail
    refine p_binop (add_loc app2_0 app2_1 (by rw [cut_strs, cut_strs, List.length_append, List.length_map, List.length_map]; simp; omega)) ?_
    have ce2 := cd2.app (.lst ((cutL ((Txt.split t " ").map D.str) none (some ((i : Int))) ++ [.str w2]) ++ cutL ((Txt.split t " ").map D.str) (some ((i : Int))) none))
    repeat fail
    have hw2 : wt (cutL (Txt.split t " ") none (some ((i : Int))) ++ [w2] ++ cutL (Txt.split t " ") (some ((i : Int))) none) ≤ 3000 := by
      rw [wt_app, wt_app, wt_cons, wt_nil]
      omega
    refine p_methD (m_join1 len_sp1 (ys := cutL (Txt.split t " ") none (some ((i : Int))) ++ [w2] ++ cutL (Txt.split t " ") (some ((i : Int))) none) (by
      first
        | (rw [cut_strs, cut_strs] at *; simp only [List.map_append, List.map_cons, List.map_nil]; exact app_at)
        | (simp only [List.map_append, List.map_cons, List.map_nil, ← cut_strs]; exact app_at)) (by omega)) ?_
    have t2 : TOk 3000 (Str.join " " (cutL (Txt.split t " ") none (some ((i : Int))) ++ [w2] ++ cutL (Txt.split t " ") (some ((i : Int))) none)) := tok_join len_sp1 ok_sp (fun p hp => by
      simp only [List.mem_append, List.mem_singleton] at hp
      rcases hp with (h | h) | h
      · exact hWc p (mem_cut h)
      · rw [h]; exact wo2
      · exact hWc p (mem_cut h)) hw2
    repeat fail
    refine p_methOk (ok_str (by rw [sm_join]; rfl)) ?_
    repeat fail
    refine p_sl_loc rfl rfl ce2.1 ?_
    have ca3 := ce2.app (.lst (cutL ((Txt.split t " ").map D.str) none (some ((i : Int)))))
    repeat fail
    have wa3 := wt_cut (a := (Txt.split t " ")) (lo := none) (hi := some ((i : Int)))
    have la3 := wt_len (ps := cutL (Txt.split t " ") none (some ((i : Int))))
    have wb3 := wt_cut (a := (Txt.split t " ")) (lo := some ((i : Int) + 1)) (hi := none)
    have lb3 := wt_len (ps := cutL (Txt.split t " ") (some ((i : Int) + 1)) none)
    refine p_sl_loc rfl rfl ca3.1 ?_
    have cd3 := ca3.app (.lst (cutL ((Txt.split t " ").map D.str) (some ((i : Int) + 1)) none))
    repeat fail
    refine p_binop (add_loc app2_0 app2_1 (by rw [cut_strs, cut_strs, List.length_map, List.length_map]; omega)) ?_
    have ce3 := cd3.app (.lst ((cutL ((Txt.split t " ").map D.str) none (some ((i : Int)))) ++ cutL ((Txt.split t " ").map D.str) (some ((i : Int) + 1)) none))
    repeat fail
    have hw3 : wt (cutL (Txt.split t " ") none (some ((i : Int))) ++ cutL (Txt.split t " ") (some ((i : Int) + 1)) none) ≤ 3000 := by
      rw [wt_app]
      omega
    refine p_methD (m_join1 len_sp1 (ys := cutL (Txt.split t " ") none (some ((i : Int))) ++ cutL (Txt.split t " ") (some ((i : Int) + 1)) none) (by
      first
        | (rw [cut_strs, cut_strs] at *; simp only [List.map_append, List.map_cons, List.map_nil]; exact app_at)
        | (simp only [List.map_append, List.map_cons, List.map_nil, ← cut_strs]; exact app_at)) (by omega)) ?_
    have t3 : TOk 3000 (Str.join " " (cutL (Txt.split t " ") none (some ((i : Int))) ++ cutL (Txt.split t " ") (some ((i : Int) + 1)) none)) := tok_join len_sp1 ok_sp (fun p hp => by
      simp only [List.mem_append, List.mem_singleton] at hp
      rcases hp with h | h
      · exact hWc p (mem_cut h)
      · exact hWc p (mem_cut h)) hw3
    repeat fail
    have cz := ce3.app (.lst [.str (Str.join " " (cutL (Txt.split t " ") none (some ((i : Int))) ++ [w1] ++ cutL (Txt.split t " ") (some ((i : Int) + 1)) none)), .str (Str.join " " (cutL (Txt.split t " ") none (some ((i : Int))) ++ [w2] ++ cutL (Txt.split t " ") (some ((i : Int))) none)), .str (Str.join " " (cutL (Txt.split t " ") none (some ((i : Int))) ++ cutL (Txt.split t " ") (some ((i : Int) + 1)) none))])
    have el : (ws.map D.str ++ [.str (Str.join " " (cutL (Txt.split t " ") none (some ((i : Int))) ++ [w1] ++ cutL (Txt.split t " ") (some ((i : Int) + 1)) none)), .str (Str.join " " (cutL (Txt.split t " ") none (some ((i : Int))) ++ [w2] ++ cutL (Txt.split t " ") (some ((i : Int))) none)), .str (Str.join " " (cutL (Txt.split t " ") none (some ((i : Int))) ++ cutL (Txt.split t " ") (some ((i : Int) + 1)) none))]) = (ws ++ [Str.join " " (cutL (Txt.split t " ") none (some ((i : Int))) ++ [w1] ++ cutL (Txt.split t " ") (some ((i : Int) + 1)) none), Str.join " " (cutL (Txt.split t " ") none (some ((i : Int))) ++ [w2] ++ cutL (Txt.split t " ") (some ((i : Int))) none), Str.join " " (cutL (Txt.split t " ") none (some ((i : Int))) ++ cutL (Txt.split t " ") (some ((i : Int) + 1)) none)]).map D.str := by
      rw [List.map_append]
      rfl
    refine p_methD (m_lst cz.2.1 lm_extend (ext_ok app_at (by rw [List.length_map]; simp; omega))) ?_
    repeat fail
    rw [el]
    refine ⟨i + 1, _, ws ++ [Str.join " " (cutL (Txt.split t " ") none (some ((i : Int))) ++ [w1] ++ cutL (Txt.split t " ") (some ((i : Int) + 1)) none), Str.join " " (cutL (Txt.split t " ") none (some ((i : Int))) ++ [w2] ++ cutL (Txt.split t " ") (some ((i : Int))) none), Str.join " " (cutL (Txt.split t " ") none (some ((i : Int))) ++ cutL (Txt.split t " ") (some ((i : Int) + 1)) none)], rfl, by omega, rfl, ?_, set_at cz.2.1, by simp; omega, fun w hw => ?_, ?_, cz.2.2.2.setNew (by omega)⟩
    · rw [List.getElem?_set_ne (by omega)]
      exact cz.1
    · rcases List.mem_append.mp hw with h | h
      · exact mw w h
      · simp only [List.mem_cons, List.not_mem_nil, or_false] at h
        rcases h with rfl | rfl | rfl
        · exact t1.le (by omega)
        · exact t2.le (by omega)
        · exact t3.le (by omega)
    · exact cz.2.2.1.fx (Fx.set (S := [st.length + 1]) (by simp)) (by rw [List.mem_singleton]; omega)
  · rintro fr s ⟨i, z, ws, e, hi, rfl, p0, p1, lw, mw, jj, f⟩
    have c0 : Cx st j ((Txt.split t " ").map D.str) (ws.map D.str) s := ⟨p0, p1, jj, f⟩
    repeat fail
    refine p_biop (len_loc (.inl p0)) ?_
    repeat fail
    rw [List.length_map]
    refine p_methOk (ok_str (by rw [sm_join]; rfl)) ?_
    repeat fail
    refine p_sl_loc rfl rfl c0.1 ?_
    have ca4 := c0.app (.lst (cutL ((Txt.split t " ").map D.str) none (some (((Txt.split t " ").length : Int) - 1))))
    repeat fail
    have wa4 := wt_cut (a := (Txt.split t " ")) (lo := none) (hi := some (((Txt.split t " ").length : Int) - 1))
    have la4 := wt_len (ps := cutL (Txt.split t " ") none (some (((Txt.split t " ").length : Int) - 1)))
    refine (s_oddword n ca4.2.2.1).to fun d s4 h => ?_
    obtain ⟨w4, rfl, wo4, wl4, jw4, fw4⟩ := h
    have hA4 := fw4.get app_at (by rw [List.mem_singleton]; have := jar_lt c0.2.2.1; omega)
    have cb4 := ((ca4.fx fw4 jw4 hlj).app (.lst [.str w4]))
    repeat fail
    refine p_binop (add_loc ((Fx.app (S := []) _ _).get hA4 (by simp)) app_at (by rw [cut_strs, List.length_map]; simp; omega)) ?_
    have cc4 := cb4.app (.lst (cutL ((Txt.split t " ").map D.str) none (some (((Txt.split t " ").length : Int) - 1)) ++ [.str w4]))
    repeat fail
    have hw4 : wt (cutL (Txt.split t " ") none (some (((Txt.split t " ").length : Int) - 1)) ++ [w4]) ≤ 3000 := by
      rw [wt_app, wt_cons, wt_nil]
      omega
    refine p_methD (m_join1 len_sp1 (ys := cutL (Txt.split t " ") none (some (((Txt.split t " ").length : Int) - 1)) ++ [w4]) (by
      first
        | (rw [cut_strs, cut_strs] at *; simp only [List.map_append, List.map_cons, List.map_nil]; exact app_at)
        | (simp only [List.map_append, List.map_cons, List.map_nil, ← cut_strs]; exact app_at)) (by omega)) ?_
    have t4 : TOk 3000 (Str.join " " (cutL (Txt.split t " ") none (some (((Txt.split t " ").length : Int) - 1)) ++ [w4])) := tok_join len_sp1 ok_sp (fun p hp => by
      simp only [List.mem_append, List.mem_singleton] at hp
      rcases hp with h | h
      · exact hWc p (mem_cut h)
      · rw [h]; exact wo4) hw4
    repeat fail
    refine (s_bent (n + 0) (B := 1000) cc4.2.2.1 ht (by omega)).to fun d s5 h => ?_
    obtain ⟨b5, rfl, k5, j5, f5⟩ := h
    have c5 := cc4.fx f5 j5 hlj
    repeat fail
    refine (s_bent (n + 0) (B := 1000) j5 ht (by omega)).to fun d s6 h => ?_
    obtain ⟨b6, rfl, k6, j6, f6⟩ := h
    have c6 := c5.fx f6 j6 hlj
    repeat fail
    refine (s_bent (n + 0) (B := 2005) j6 (k6.le (by omega)) (by omega)).to fun d s7 h => ?_
    obtain ⟨b7, rfl, k7, j7, f7⟩ := h
    have c7 := c6.fx f7 j7 hlj
    repeat fail
    have c8 := c7.app (.lst [.str (Str.join " " (cutL (Txt.split t " ") none (some (((Txt.split t " ").length : Int) - 1)) ++ [w4])), .str b5, .str b7])
    refine p_binop (add_loc c8.2.1 app_at (by rw [List.length_map]; simp; omega)) ?_
    have c9 := c8.app (.lst (ws.map D.str ++ [.str (Str.join " " (cutL (Txt.split t " ") none (some (((Txt.split t " ").length : Int) - 1)) ++ [w4])), .str b5, .str b7]))
    have el : (ws.map D.str ++ [.str (Str.join " " (cutL (Txt.split t " ") none (some (((Txt.split t " ").length : Int) - 1)) ++ [w4])), .str b5, .str b7]) = (ws ++ [Str.join " " (cutL (Txt.split t " ") none (some (((Txt.split t " ").length : Int) - 1)) ++ [w4]), b5, b7]).map D.str := by
      rw [List.map_append]
      rfl
    rw [el] at c9 ⊢
    repeat fail
    refine ⟨_, ws ++ [Str.join " " (cutL (Txt.split t " ") none (some (((Txt.split t " ").length : Int) - 1)) ++ [w4]), b5, b7], rfl, app_at, by simp; omega, fun w hw => ?_, ?_, c9.2.2.1, c9.2.2.2⟩
    · rcases List.mem_append.mp hw with h | h
      · exact mw w h
      · simp only [List.mem_cons, List.not_mem_nil, or_false] at h
        rcases h with rfl | rfl | rfl
        · exact t4.le (by omega)
        · exact k5.le (by omega)
        · exact k7.le (by omega)
    · exact c8.2.2.2.1
end MI.P

set_option Elab.async false
set_option linter.all false
set_option maxRecDepth 100000
set_option maxHeartbeats 4000000
/-! PLAIN, part 25: bent keys. -/
namespace MI.P
open PySem K82
open TL (tl)
local macro_rules | `(tactic| fail) => `(tactic| first
  | with_reducible refine max_ok ?_
  | with_reducible refine min_ok ?_
  | with_reducible refine p_mul ?_ ?_
  | with_reducible refine p_mod ?_ ?_
  | with_reducible refine p_int ?_
  | with_reducible refine p_intb ?_
  | with_reducible refine p_add ?_
  | with_reducible refine p_ge ?_
  | ((with_reducible refine e_var.mpr ?_); refine ⟨_, rfl, ?_⟩)
  | with_reducible refine e_c.mpr ?_
  | with_reducible refine e_gv.mpr ?_
  | with_reducible refine e_bin.mpr ?_
  | with_reducible refine e_cmp.mpr ?_
  | with_reducible refine e_chain.mpr ?_
  | with_reducible refine e_neg.mpr ?_
  | with_reducible refine e_not.mpr ?_
  | with_reducible refine e_and.mpr ?_
  | with_reducible refine e_or.mpr ?_
  | with_reducible refine e_ife.mpr ?_
  | with_reducible refine e_nil.mpr ?_
  | with_reducible refine e_cons.mpr ?_
  | with_reducible refine e_consT.mpr ?_
  | with_reducible refine e_consU.mpr ?_
  | with_reducible refine e_rep.mpr ?_
  | with_reducible refine e_tup.mpr ?_
  | with_reducible refine e_lst.mpr ?_
  | with_reducible refine e_idx.mpr ?_
  | with_reducible refine e_part.mpr ?_
  | with_reducible refine e_sl.mpr ?_
  | with_reducible refine e_attr.mpr ?_
  | with_reducible refine e_call.mpr ?_
  | with_reducible refine e_make.mpr ?_
  | with_reducible refine e_meth.mpr ?_
  | with_reducible refine e_bi.mpr ?_
  | with_reducible refine e_isi.mpr ?_
  | with_reducible refine e_yes.mpr ?_
  | with_reducible refine e_lc.mpr ?_
  | with_reducible refine runS_seq.mpr ?_
  | with_reducible refine t_skip.mpr ?_
  | with_reducible refine t_asg.mpr ?_
  | with_reducible refine t_setf.mpr ?_
  | with_reducible refine t_augf.mpr ?_
  | with_reducible refine t_seti.mpr ?_
  | with_reducible refine t_exp.mpr ?_
  | with_reducible refine t_ite.mpr ?_
  | with_reducible refine t_ret.mpr ?_
  | with_reducible refine t_retn.mpr ?_
  | with_reducible refine t_raise.mpr ?_
  | with_reducible refine t_for.mpr ?_
  | with_reducible refine k_nx ?_
  | with_reducible refine k_rt ?_
  | with_reducible refine k_xx ?_
  | with_reducible refine q_nx ?_
  | with_reducible refine q_rt ?_
  | with_reducible refine q_xx ?_
  | ((with_reducible refine g_isiD ?_); refine p_isiD rfl ?_)
  | ((with_reducible refine g_cmpop ?_); refine p_cmpop rfl ?_)
  | ((with_reducible refine g_binop ?_); refine p_binop rfl ?_)
  | ((with_reducible refine g_consD ?_); refine p_consD rfl ?_)
  | ((with_reducible refine g_biop ?_); refine p_biop rfl ?_)
  | ((with_reducible refine g_idxD ?_); refine p_idxD rfl ?_)
  | ((with_reducible refine g_sliD ?_); refine p_sliD rfl ?_)
  | ((with_reducible refine g_augop ?_); refine p_augop rfl ?_)
  | ((with_reducible refine g_setiD ?_); refine p_setiD rfl ?_)
  | ((with_reducible refine g_srcOf ?_); refine p_srcOf rfl ?_)
  | ((with_reducible refine g_repD ?_); refine p_repD rfl ?_)
  | with_reducible refine b_nm0 ?_
  | ((with_reducible refine b_nm ?h0 ?_); (case h0 => rfl))
  | ((with_reducible refine g_bindT ?_); refine p_bindT rfl ?_)
  | ((with_reducible refine g_itOf ?_); refine p_itOf rfl ?_)
  | ((with_reducible refine e_lam.mpr ?_); refine ⟨_, rfl, ?_⟩)
  | ((with_reducible refine t_aug.mpr ?_); refine ⟨_, rfl, ?_⟩)
  | ((with_reducible refine ex_tup ?h0 ?_); (case h0 => exact Nat.le_of_ble_eq_true rfl))
  | with_reducible refine br_t ?_
  | with_reducible refine br_f ?_
  | with_reducible refine br_nd (fun h => ?_) (fun h => ?_)
  | with_reducible refine br_d (fun h => ?_) (fun h => ?_)
  | ((with_reducible refine br_g ?_); refine br_t ?_)
  | ((with_reducible refine br_g ?_); refine br_f ?_)
  | with_reducible refine br_n (fun h => ?_) (fun h => ?_)
  | with_reducible refine br_b (fun h => ?_) (fun h => ?_)
  | with_reducible refine ⟨_, rfl, ?_⟩)
/-- may be asked whether it is keys, both ways -/
def KQ (s : Store) (d : D) : Prop := VK s d ∧ ∀ a ss, d = .tup [a, .tup ss] → ∀ x ∈ ss, FlatD x
theorem Vld.fxj {j : Nat} {s s' : Store} {d : D} (h : Vld s d) (f : Fx [j] s s') (hj : J s' j) : Vld s' d := by
  cases d <;> first | exact h | skip
  rename_i l
  by_cases e : l = j
  · obtain ⟨a, b, hj⟩ := hj
    exact ⟨_, .inl (by rw [e]; exact hj)⟩
  · obtain ⟨ds, h⟩ := h
    exact ⟨ds, h.imp (fun z => f.get z (by rw [List.mem_singleton]; exact e)) fun z => f.get z (by rw [List.mem_singleton]; exact e)⟩
theorem VK.fxj {j : Nat} {s s' : Store} {d : D} (h : VK s d) (f : Fx [j] s s') (hj : J s' j) : VK s' d := by
  cases d with
  | tup ds =>
    refine ⟨h.1, fun e he => ⟨(h.2 e he).1.fxj f hj, ?_⟩⟩
    have := (h.2 e he).2
    cases e <;> first | exact trivial | skip
    exact ⟨this.1, fun x hx => (this.2 x hx).fxj f hj⟩
  | non => exact trivial
  | bl _ => exact trivial
  | int _ => exact trivial
  | str _ => exact trivial
  | loc l => exact Vld.fxj (d := .loc l) (s := s) h f hj
  | fn _ => exact h
  | clo _ _ => exact h
theorem KQ.fxj {j : Nat} {s s' : Store} {d : D} (h : KQ s d) (f : Fx [j] s s') (hj : J s' j) : KQ s' d := ⟨h.1.fxj f hj, h.2⟩
def FlatL (d : D) : Prop := FlatD d ∧ ∀ es, d = .tup es → es.length ≤ 1000
theorem flat_vld {s : Store} {d : D} (h : FlatD d) : Vld s d := by
  cases d <;> first | exact trivial | exact h.elim
theorem K_flats {s : Store} {ds : List D} (hl : ds.length ≤ 1000) (h : ∀ e ∈ ds, FlatL e) : KQ s (.tup ds) := by
  refine ⟨⟨hl, fun e he => ?_⟩, fun a ss e x hx => ?_⟩
  · have hfe := h e he
    clear h hl he
    cases e <;> first | exact ⟨trivial, trivial⟩ | exact hfe.1.elim | skip
    rename_i es
    refine ⟨trivial, hfe.2 es rfl, fun x hx => ?_⟩
    obtain ⟨i, rfl⟩ := hfe.1 x hx
    exact trivial
  injection e with e
  have := (h (.tup ss) (by rw [e]; simp)).1
  obtain ⟨i, rfl⟩ := this x hx
  exact trivial
theorem K_two {s : Store} {a : D} {xs : List D} (ha : FlatL a) (hl : xs.length ≤ 1000) (hx : ∀ x ∈ xs, FlatD x) : KQ s (.tup [a, .tup xs]) := by
  refine ⟨⟨by simp, fun e he => ?_⟩, fun b ss e x hxs => ?_⟩
  · rcases List.mem_cons.mp he with rfl | he
    · cases e <;> first | exact ⟨trivial, trivial⟩ | exact ha.1.elim | skip
      rename_i es
      refine ⟨trivial, ha.2 es rfl, fun x hx => ?_⟩
      obtain ⟨i, rfl⟩ := ha.1 x hx
      exact trivial
    · rw [List.mem_singleton.mp he]
      exact ⟨trivial, hl, fun x hx' => flat_vld (hx x hx')⟩
  · injection e with e
    injection e with e1 e2
    injection e2 with e2
    injection e2 with e2
    rw [← e2] at hxs
    exact hx x hxs
theorem fl_int {i : Int} : FlatL (.int i) := ⟨trivial, fun es e => by cases e⟩
theorem fl_non : FlatL .non := ⟨trivial, fun es e => by cases e⟩
theorem fl_bl {b : Bool} : FlatL (.bl b) := ⟨trivial, fun es e => by cases e⟩
theorem fl_ints {xs : List D} (hl : xs.length ≤ 1000) (h : ∀ d ∈ xs, ∃ i, d = .int i) : FlatL (.tup xs) := ⟨h, fun es e => by injection e with e; rw [← e]; exact hl⟩
theorem p_tup_app {a b : List D} {st : Store} {Q : D → Store → Prop} {E : Ex → Store → Prop} (h : a.length + b.length ≤ 1000000) (k : Q (.tup (a ++ b)) st) : Run (binop .add (.tup a) (.tup b)) st Q E := by
  have hz := sizeL
  refine p_binop (v := .tup (a ++ b)) (st' := st) ?_ k
  show bnd (guard (decide (a.length + b.length ≤ sizeLine))) (fun _ => ret (D.tup (a ++ b))) st = _
  rw [decide_eq_true (by omega)]
  rfl
theorem p_sl_tup {ds : List D} {lo hi : D} {l h : Option Int} {st : Store} {Q : D → Store → Prop} {E : Ex → Store → Prop} (e1 : partOf lo = some l) (e2 : partOf hi = some h) (k : Q (.tup (cutL ds l h)) st) : Run (sliD (.tup ds) lo hi) st Q E := by
  refine p_sliD (v := .tup (cutL ds l h)) (st' := st) ?_ k
  unfold sliD
  simp only [e1, e2]
  rfl
theorem cut_len {α : Type} {lo hi : Option Int} {a : List α} : (cutL a lo hi).length ≤ a.length := by
  unfold cutL
  rw [List.length_take, List.length_drop]
  omega
theorem app3_0 {st : Store} {a b c : Ob} : (st ++ [a] ++ [b] ++ [c])[st.length]? = some a := by simp
theorem s_bentkeys (n k : Nat) {j : Nat} {s : Int} {ss : List Int} {st : Store} (hj : J st j) (hk : k ≤ 41) (hs : ss.length ≤ 41) : Run ((calls G (n + 4)).1 31 [.loc j, .int (k : Int), .tup [.int s, .tup (ss.map .int)]]) st (fun d s' => ∃ (l : Nat) (ds : List D), d = .loc l ∧ s'[l]? = some (.lst ds) ∧ ds.length ≤ 100 ∧ (∀ d ∈ ds, KQ s' d) ∧ st.length ≤ l ∧ J s' j ∧ Fx [j] st s') fun _ _ => False := by
  have hz := sizeL
  have hlj := jar_lt hj
  refine rd_def [some (.loc j), some (.int (k : Int)), some (.tup [.int s, .tup (ss.map .int)]), none, none, none, none, none] rfl rfl rfl rfl rfl ?_
  unfold c31
  repeat fail
  refine (s_take (E := fun _ _ => False) (n + 2) hj (by omega) (by omega)).to fun d s1 h => ?_
  obtain ⟨at1, rfl, hr1, j1, f1⟩ := h
  repeat fail
  have hlj1 := jar_lt j1
  refine (s_one (E := fun _ _ => False) (n + 1) (j1.fx (Fx.app (S := []) s1 _) (by simp)) app_at (by omega) (by simp) (by simp)).to fun odd s2 h => ?_
  obtain ⟨ho, j2, f2⟩ := h
  have hodd : FlatL odd := by
    simp only [List.mem_cons, List.not_mem_nil, or_false] at ho
    rcases ho with rfl | rfl | rfl | rfl | rfl | rfl | rfl
    · exact fl_int
    · exact fl_int
    · exact fl_bl
    · exact fl_non
    · exact ⟨(tok_lit (s := "0") (n := 1) (by decide +kernel)).1, fun es e => by cases e⟩
    · exact fl_ints (xs := [.int 0]) (by simp) (fun d hd => ⟨0, List.mem_singleton.mp hd⟩)
    · exact fl_int
  have f3 : Fx [j] st s2 := f1.trans ((Fx.app _ _).trans f2)
  have hT : ∀ d ∈ ss.map D.int, ∃ i, d = .int i := fun d hd => by
    obtain ⟨i, _, e⟩ := List.mem_map.mp hd
    exact ⟨i, e.symm⟩
  generalize hTT : ss.map D.int = T at hT ⊢
  have hTl : T.length ≤ 41 := by rw [← hTT, List.length_map]; exact hs
  have cl : ∀ lo hi : Option Int, (cutL T lo hi).length ≤ 41 := fun lo hi => Nat.le_trans cut_len hTl
  repeat fail
  refine p_tup_app (by have := cl none (some (at1 : Int)); simp; omega) ?_
  repeat fail
  refine p_tup_app (by have := cl none (some (at1 : Int)); have := cl (some ((at1 : Int) + 1)) none; simp; omega) ?_
  repeat fail
  refine p_tup_app (by have := cl none (some (at1 : Int)); simp; omega) ?_
  repeat fail
  refine p_tup_app (by have := cl none (some (at1 : Int)); have := cl (some ((at1 : Int))) none; simp; omega) ?_
  repeat fail
  refine p_tup_app (by simp; omega) ?_
  repeat fail
  refine p_binop (add_loc app3_0 app_at (by simp <;> omega)) ?_
  have hp1 : ∀ x y z w : Ob, (s2 ++ [Ob.lst T] ++ [x] ++ [y] ++ [z] ++ [w])[s2.length]? = some (.lst T) := fun x y z w => by simp
  have hp2 : ∀ x y z w : Ob, (s2 ++ [Ob.lst T] ++ [x] ++ [y] ++ [z] ++ [w])[(s2 ++ [Ob.lst T] ++ [x]).length]? = some y := fun x y z w => by simp
  have hA : ∀ v : Int, ∀ d ∈ cutL T none (some (at1 : Int)) ++ [odd] ++ cutL T (some v) none, FlatD d := by
    intro v d hd
    simp only [List.mem_append, List.mem_singleton] at hd
    rcases hd with (h | h) | h
    · obtain ⟨i, rfl⟩ := hT d (mem_cut h)
      exact trivial
    · rw [h]
      exact hodd.1
    · obtain ⟨i, rfl⟩ := hT d (mem_cut h)
      exact trivial
  have hAl : ∀ v : Int, (cutL T none (some (at1 : Int)) ++ [odd] ++ cutL T (some v) none).length ≤ 1000 := by
    intro v
    have := cl none (some (at1 : Int))
    have := cl (some v) none
    simp only [List.length_append, List.length_cons, List.length_nil]
    omega
  have hTT0 : FlatL (.tup T) := fl_ints (by omega) hT
  have hT1 : FlatL (.tup (T ++ [.int 0])) := fl_ints (by simp; omega) fun d hd => by
    rcases List.mem_append.mp hd with h | h
    · exact hT d h
    · exact ⟨0, List.mem_singleton.mp h⟩
  have hT2 : FlatL (.tup (cutL T (some 1) none)) := fl_ints (by have := cl (some 1) none; omega) fun d hd => hT d (mem_cut hd)
  have two : ∀ {S : Store} {a b : D}, FlatL a → FlatL b → KQ S (.tup [a, b]) := fun ha hb => K_flats (by simp) fun e he => by
    rcases List.mem_cons.mp he with rfl | he
    · exact ha
    · rw [List.mem_singleton.mp he]
      exact hb
  have hj3 : ∀ x y z w : Ob, J (s2 ++ [Ob.lst T] ++ [x] ++ [y] ++ [z] ++ [w]) j := fun x y z w => j2.fx (((((Fx.app (S := []) s2 [Ob.lst T]).apps [x]).apps [y]).apps [z]).apps [w]) (by simp)
  have hf3 : ∀ x y z w : Ob, Fx [j] st (s2 ++ [Ob.lst T] ++ [x] ++ [y] ++ [z] ++ [w]) := fun x y z w => ((((f3.apps _).apps _).apps _).apps _).apps _
  repeat fail
  refine (s_mixed (n + 1) (hj3 _ _ _ _) app_at (by simp)).to fun d s4 h => ?_
  obtain ⟨l, fs, rfl, hl, _, hm, hlen, j4, f4⟩ := h
  have hlj4 := jar_lt j4
  repeat fail
  refine p_sl_loc rfl rfl hl ?_
  repeat fail
  refine ⟨_, cutL fs none (some 7), rfl, app_at, ?_, fun x hx => ?_, ?_, j4.fx (Fx.app (S := []) _ _) (by simp), ((hf3 _ _ _ _).trans f4).apps _⟩
  · unfold cutL
    rw [List.length_take]
    have e7 : HT.sIx fs.length fs.length (some 7) = min 7 fs.length := HT.sIx_nat _ _ 7
    have := Nat.min_le_left 7 fs.length
    rw [e7]
    omega
  · refine KQ.fxj (j := j) ?_ (f4.trans (Fx.app _ _)) (j4.fx (Fx.app (S := []) _ _) (by simp))
    have hx := hm x (mem_cut hx)
    simp only [List.mem_append, List.mem_cons, List.not_mem_nil, or_false] at hx
    rcases hx with (h | h | h | h | h | h | h | h | h | h) | (h | h | h | h | h | h | h | h)
    · rw [h]; exact K_two fl_int (hAl _) (hA _)
    · rw [h]; exact K_two fl_int (hAl _) (hA _)
    · rw [h]; exact two fl_int hT1
    · rw [h]; exact two fl_int hT2
    · rw [h]
      refine ⟨⟨by simp, fun e he => ?_⟩, fun a ss e => by injection e with e; injection e with e1 e2; injection e2 with e2; cases e2⟩
      rcases List.mem_cons.mp he with rfl | he
      · exact ⟨trivial, trivial⟩
      · rw [List.mem_singleton.mp he]
        exact ⟨⟨_, .inl (hp1 _ _ _ _)⟩, trivial⟩
    · rw [h]; exact two fl_int hTT0
    · rw [h]; exact two fl_int hTT0
    · rw [h]; exact two fl_bl hTT0
    · rw [h]; exact two fl_non hTT0
    · rw [h]; exact two hodd hTT0
    · rw [h]; exact K_flats (by simp) fun e he => by rw [List.mem_singleton.mp he]; exact fl_int
    · rw [h]
      exact K_flats (by simp) fun e he => by
        simp only [List.mem_cons, List.not_mem_nil, or_false] at he
        rcases he with rfl | rfl | rfl
        · exact fl_int
        · exact hTT0
        · exact fl_int
    · rw [h]
      exact ⟨⟨_, .inl (hp2 _ _ _ _)⟩, fun a ss e => by cases e⟩
    · rw [h]; exact ⟨trivial, fun a ss e => by cases e⟩
    · rw [h]; exact K_flats (by omega) fun e he => by
        obtain ⟨i, rfl⟩ := hT e he
        exact fl_int
    · rw [h]; exact two hTT0 fl_int
    · rw [h]; exact two fl_int fl_non
    · rw [h]; exact ⟨trivial, fun a ss e => by cases e⟩
  · have := (hf3 (.lst []) (.lst []) (.lst []) (.lst [])).1
    have := f3.1
    have := f4.1
    simp only [List.length_append, List.length_cons, List.length_nil] at *
    omega
end MI.P

set_option Elab.async false
set_option linter.all false
set_option maxRecDepth 100000
set_option maxHeartbeats 4000000
/-! PLAIN, part 26: keys_right. -/
namespace MI.P
open PySem K82
open TL (tl)
local macro_rules | `(tactic| fail) => `(tactic| first
  | with_reducible refine max_ok ?_
  | with_reducible refine min_ok ?_
  | with_reducible refine p_mul ?_ ?_
  | with_reducible refine p_mod ?_ ?_
  | with_reducible refine p_int ?_
  | with_reducible refine p_intb ?_
  | with_reducible refine p_add ?_
  | with_reducible refine p_ge ?_
  | ((with_reducible refine e_var.mpr ?_); refine ⟨_, rfl, ?_⟩)
  | with_reducible refine e_c.mpr ?_
  | with_reducible refine e_gv.mpr ?_
  | with_reducible refine e_bin.mpr ?_
  | with_reducible refine e_cmp.mpr ?_
  | with_reducible refine e_chain.mpr ?_
  | with_reducible refine e_neg.mpr ?_
  | with_reducible refine e_not.mpr ?_
  | with_reducible refine e_and.mpr ?_
  | with_reducible refine e_or.mpr ?_
  | with_reducible refine e_ife.mpr ?_
  | with_reducible refine e_nil.mpr ?_
  | with_reducible refine e_cons.mpr ?_
  | with_reducible refine e_consT.mpr ?_
  | with_reducible refine e_consU.mpr ?_
  | with_reducible refine e_rep.mpr ?_
  | with_reducible refine e_tup.mpr ?_
  | with_reducible refine e_lst.mpr ?_
  | with_reducible refine e_idx.mpr ?_
  | with_reducible refine e_part.mpr ?_
  | with_reducible refine e_sl.mpr ?_
  | with_reducible refine e_attr.mpr ?_
  | with_reducible refine e_call.mpr ?_
  | with_reducible refine e_make.mpr ?_
  | with_reducible refine e_meth.mpr ?_
  | with_reducible refine e_bi.mpr ?_
  | with_reducible refine e_isi.mpr ?_
  | with_reducible refine e_yes.mpr ?_
  | with_reducible refine e_lc.mpr ?_
  | with_reducible refine runS_seq.mpr ?_
  | with_reducible refine t_skip.mpr ?_
  | with_reducible refine t_asg.mpr ?_
  | with_reducible refine t_setf.mpr ?_
  | with_reducible refine t_augf.mpr ?_
  | with_reducible refine t_seti.mpr ?_
  | with_reducible refine t_exp.mpr ?_
  | with_reducible refine t_ite.mpr ?_
  | with_reducible refine t_ret.mpr ?_
  | with_reducible refine t_retn.mpr ?_
  | with_reducible refine t_raise.mpr ?_
  | with_reducible refine t_for.mpr ?_
  | with_reducible refine k_nx ?_
  | with_reducible refine k_rt ?_
  | with_reducible refine k_xx ?_
  | with_reducible refine q_nx ?_
  | with_reducible refine q_rt ?_
  | with_reducible refine q_xx ?_
  | ((with_reducible refine g_isiD ?_); refine p_isiD rfl ?_)
  | ((with_reducible refine g_cmpop ?_); refine p_cmpop rfl ?_)
  | ((with_reducible refine g_binop ?_); refine p_binop rfl ?_)
  | ((with_reducible refine g_consD ?_); refine p_consD rfl ?_)
  | ((with_reducible refine g_biop ?_); refine p_biop rfl ?_)
  | ((with_reducible refine g_idxD ?_); refine p_idxD rfl ?_)
  | ((with_reducible refine g_sliD ?_); refine p_sliD rfl ?_)
  | ((with_reducible refine g_augop ?_); refine p_augop rfl ?_)
  | ((with_reducible refine g_setiD ?_); refine p_setiD rfl ?_)
  | ((with_reducible refine g_srcOf ?_); refine p_srcOf rfl ?_)
  | ((with_reducible refine g_repD ?_); refine p_repD rfl ?_)
  | with_reducible refine b_nm0 ?_
  | ((with_reducible refine b_nm ?h0 ?_); (case h0 => rfl))
  | ((with_reducible refine g_bindT ?_); refine p_bindT rfl ?_)
  | ((with_reducible refine g_itOf ?_); refine p_itOf rfl ?_)
  | ((with_reducible refine e_lam.mpr ?_); refine ⟨_, rfl, ?_⟩)
  | ((with_reducible refine t_aug.mpr ?_); refine ⟨_, rfl, ?_⟩)
  | ((with_reducible refine ex_tup ?h0 ?_); (case h0 => exact Nat.le_of_ble_eq_true rfl))
  | with_reducible refine br_t ?_
  | with_reducible refine br_f ?_
  | with_reducible refine br_nd (fun h => ?_) (fun h => ?_)
  | with_reducible refine br_d (fun h => ?_) (fun h => ?_)
  | ((with_reducible refine br_g ?_); refine br_t ?_)
  | ((with_reducible refine br_g ?_); refine br_f ?_)
  | with_reducible refine br_n (fun h => ?_) (fun h => ?_)
  | with_reducible refine br_b (fun h => ?_) (fun h => ?_)
  | with_reducible refine ⟨_, rfl, ?_⟩)
def KC (st : Store) (j k : Nat) (t : Str) (m : D) (S : Store) : Prop := S[st.length]? = some (.cell (some (.int (k : Int)))) ∧ S[st.length + 2]? = some (.cell (some (.str t))) ∧ S[st.length + 3]? = some (.cell (some m)) ∧ (∃ x, S[st.length + 1]? = some (.cell x)) ∧ (∃ x, S[st.length + 4]? = some (.cell x)) ∧ J S j ∧ Fx [j] st S
theorem KC.fx {st S S' : Store} {j k : Nat} {t : Str} {m : D} (h : KC st j k t m S) (f : Fx [j] S S') (hj : J S' j) (hl : j < st.length) : KC st j k t m S' := by
  obtain ⟨h1, h2, h3, ⟨x, h4⟩, ⟨y, h5⟩, _, h7⟩ := h
  have hn : ∀ i, st.length + i ∉ [j] := fun i => by rw [List.mem_singleton]; omega
  exact ⟨f.get h1 (hn 0), f.get h2 (hn 2), f.get h3 (hn 3), ⟨x, f.get h4 (hn 1)⟩, ⟨y, f.get h5 (hn 4)⟩, hj, h7.trans f⟩
theorem KC.fx0 {st S S' : Store} {j k : Nat} {t : Str} {m : D} (h : KC st j k t m S) (f : Fx [] S S') (hl : j < st.length) : KC st j k t m S' := h.fx f.none (h.2.2.2.2.2.1.fx f (by simp)) hl
theorem KC.set1 {st S : Store} {j k : Nat} {t : Str} {m : D} (h : KC st j k t m S) (x : Option D) (hl : j < st.length) : KC st j k t m (S.set (st.length + 1) (.cell x)) := by
  obtain ⟨h1, h2, h3, ⟨y, h4⟩, ⟨z, h5⟩, h6, h7⟩ := h
  exact ⟨by rw [List.getElem?_set_ne (by omega)]; exact h1, by rw [List.getElem?_set_ne (by omega)]; exact h2, by rw [List.getElem?_set_ne (by omega)]; exact h3, ⟨_, set_at h4⟩, ⟨z, by rw [List.getElem?_set_ne (by omega)]; exact h5⟩, h6.fx (Fx.set (S := [st.length + 1]) (by simp)) (by rw [List.mem_singleton]; omega), h7.setNew (by omega)⟩
theorem KC.set4 {st S : Store} {j k : Nat} {t : Str} {m : D} (h : KC st j k t m S) (x : Option D) (hl : j < st.length) : KC st j k t m (S.set (st.length + 4) (.cell x)) ∧ (S.set (st.length + 4) (.cell x))[st.length + 4]? = some (.cell x) := by
  obtain ⟨h1, h2, h3, ⟨y, h4⟩, ⟨z, h5⟩, h6, h7⟩ := h
  exact ⟨⟨by rw [List.getElem?_set_ne (by omega)]; exact h1, by rw [List.getElem?_set_ne (by omega)]; exact h2, by rw [List.getElem?_set_ne (by omega)]; exact h3, ⟨y, by rw [List.getElem?_set_ne (by omega)]; exact h4⟩, ⟨_, set_at h5⟩, h6.fx (Fx.set (S := [st.length + 4]) (by simp)) (by rw [List.mem_singleton]; omega), h7.setNew (by omega)⟩, set_at h5⟩
theorem kq_keys {S : Store} {a : Int} {as : List Int} (h : as.length ≤ 41) : VK S (.tup [.int a, .tup (as.map D.int)]) := (K_two (s := S) fl_int (by rw [List.length_map]; omega) ints_flat).1
theorem keysB_yes {k : Nat} {a : Int} {as : List Int} (h : NumsOk a as) (hk : as.length = k) : keysB k (.tup [.int a, .tup (as.map D.int)]) = true := by
  rw [keysB_s]
  have q1 : isNum (.int a) 1 1000000 = true := by
    unfold isNum
    have := h.1
    simp [this]
  have q2 : allNum (as.map D.int) = true := by
    unfold allNum
    rw [List.all_map, List.all_eq_true]
    intro x hx
    have := h.2.2 x hx
    simp [isNum, this]
  rw [q1, q2, List.length_map, decide_eq_true hk]
  rfl
theorem ints_inj : ∀ {x y : List Int}, x.map D.int = y.map D.int → x = y
  | [], [], _ => rfl
  | [], _ :: _, h => by cases h
  | _ :: _, [], h => by cases h
  | a :: x, b :: y, h => by
    rw [List.map_cons, List.map_cons] at h
    injection h with h1 h2
    injection h1 with h1
    rw [h1, ints_inj h2]
theorem keys_inj {a b : Int} {as bs : List Int} (h : D.tup [.int a, .tup (as.map D.int)] = D.tup [.int b, .tup (bs.map D.int)]) : a = b ∧ as = bs := by
  injection h with h
  injection h with h1 h2
  injection h1 with h1
  injection h2 with h2
  injection h2 with h2
  exact ⟨h1, ints_inj h2⟩
theorem kT_ascii {a : Int} {as : List Int} (h : NumsOk a as) : ∀ c ∈ tl (kT a as), c < 128 := by
  have hp : ∀ p ∈ kTl a as, ∀ c ∈ tl p, c < 128 := by
    intro p hp c hcp
    unfold kTl at hp
    rcases List.mem_cons.mp hp with rfl | hp
    · have : (tl "keys").all (fun c => decide (c < 128)) = true := by decide +kernel
      exact of_decide_eq_true (List.all_eq_true.mp this c hcp)
    rcases List.mem_cons.mp hp with rfl | hp
    · rw [tl_numS (by have := h.1; omega)] at hcp
      have := TL.numL_digits _ c hcp
      omega
    obtain ⟨i, hi, rfl⟩ := List.mem_map.mp hp
    rw [tl_numS (h.2.2 i hi).1] at hcp
    have := TL.numL_digits _ c hcp
    omega
  have aux : ∀ ps : List Str, (∀ p ∈ ps, ∀ c ∈ tl p, c < 128) → ∀ c ∈ tl (Str.join " " ps), c < 128 := by
    intro ps
    induction ps with
    | nil => intro _ c hc; cases hc
    | cons p r ih =>
      intro hp c hc
      cases r with
      | nil => exact hp p List.mem_cons_self c hc
      | cons q r =>
        have hc : c ∈ tl (p ++ " " ++ Str.join " " (q :: r)) := hc
        rw [TL.tl_append, TL.tl_append, List.mem_append, List.mem_append] at hc
        rcases hc with (hc | hc) | hc
        · exact hp p List.mem_cons_self c hc
        · have e : tl (" " : Str) = [32] := by decide +kernel
          rw [e, List.mem_singleton] at hc
          omega
        · exact ih (fun z hz => hp z (List.mem_cons_of_mem _ hz)) c hc
  exact aux _ hp
def Keep (s s' : Store) : Prop := ∀ l : Nat, (∃ ds, s[l]? = some (.lst ds) ∨ s[l]? = some (.fro ds)) → ∃ ds, s'[l]? = some (.lst ds) ∨ s'[l]? = some (.fro ds)
theorem Keep.fxj {j : Nat} {s s' : Store} (f : Fx [j] s s') (hj : J s' j) : Keep s s' := by
  intro l h
  by_cases e : l = j
  · obtain ⟨a, b, hj⟩ := hj
    exact ⟨_, .inl (by rw [e]; exact hj)⟩
  · obtain ⟨ds, h⟩ := h
    exact ⟨ds, h.imp (fun z => f.get z (by rw [List.mem_singleton]; exact e)) fun z => f.get z (by rw [List.mem_singleton]; exact e)⟩
theorem Keep.fx0 {s s' : Store} (f : Fx [] s s') : Keep s s' := by
  intro l h
  obtain ⟨ds, h⟩ := h
  exact ⟨ds, h.imp (fun z => f.get z (by simp)) fun z => f.get z (by simp)⟩
theorem Keep.cell {s : Store} {c : Nat} {x y : Option D} (hc : s[c]? = some (.cell x)) : Keep s (s.set c (.cell y)) := by
  intro l h
  obtain ⟨ds, h⟩ := h
  have : l ≠ c := by
    rintro rfl
    rw [hc] at h
    rcases h with h | h <;> cases h
  exact ⟨ds, by rw [List.getElem?_set_ne (Ne.symm this)]; exact h⟩
theorem VK.keep {s s' : Store} {d : D} (h : VK s d) (f : Keep s s') : VK s' d := by
  have hv : ∀ {e : D}, Vld s e → Vld s' e := by
    intro e he
    cases e <;> first | exact he | skip
    exact f _ he
  cases d with
  | tup ds =>
    refine ⟨h.1, fun e he => ⟨hv (h.2 e he).1, ?_⟩⟩
    have := (h.2 e he).2
    cases e <;> first | exact trivial | skip
    exact ⟨this.1, fun x hx => hv (this.2 x hx)⟩
  | non => exact trivial
  | bl _ => exact trivial
  | int _ => exact trivial
  | str _ => exact trivial
  | loc l => exact hv (e := .loc l) h
  | fn _ => exact h
  | clo _ _ => exact h
theorem KQ.keep {s s' : Store} {d : D} (h : KQ s d) (f : Keep s s') : KQ s' d := ⟨h.1.keep f, h.2⟩
theorem kc_ne {st S : Store} {j k l : Nat} {t : Str} {m : D} {ds : List D} (h : KC st j k t m S) (hl : S[l]? = some (.lst ds)) : l ≠ st.length + 4 ∧ l ≠ st.length + 1 := by
  obtain ⟨_, _, _, ⟨y, h4⟩, ⟨z, h5⟩, _⟩ := h
  constructor
  · rintro rfl
    rw [hl] at h5
    cases h5
  · rintro rfl
    rw [hl] at h4
    cases h4
theorem one_bent (n k : Nat) {j lb : Nat} {t : Str} {m d : D} {ds : List D} {st S : Store} {o z : Option D} (hk : k ≤ 40) (hlj : j < st.length) (kc : KC st j k t m S) (hd : KQ S d) (hb : S[lb]? = some (.lst ds)) (hds : ∀ x ∈ ds, KQ S x) {R : Out → Store → Prop}
    (hP : ∀ o s, KC st j k t m s → s[lb]? = some (.lst ds) → (∀ x ∈ ds, KQ s x) → R (.nx ⟨[some (.loc j), some (.int (k : Int)), o, none, none, none, none, some (.str t), some m, some d, none], [(1, st.length), (6, st.length + 1), (7, st.length + 2), (8, st.length + 3), (9, st.length + 4)]⟩) s) :
    RunS (exS (bindT (.nm 9) d ⟨[some (.loc j), some (.int (k : Int)), o, none, none, none, none, some (.str t), some m, z, none], [(1, st.length), (6, st.length + 1), (7, st.length + 2), (8, st.length + 3), (9, st.length + 4)]⟩) ⟨[some (.loc j), some (.int (k : Int)), o, none, none, none, none, some (.str t), some m, z, none], [(1, st.length), (6, st.length + 1), (7, st.length + 2), (8, st.length + 3), (9, st.length + 4)]⟩ fun fr2 => evs G (calls G (n + 8)).1 (calls G (n + 8)).2 (.seq (.asg (.nm 2) (.ife (.call "_law_is_keys_pair" 25 (.cons (.var 1) (.cons (.var 9) .nil))) (.tup (.cons (.c (.str "told")) (.cons (.call "_law_keys_text" 24 (.cons (.var 9) .nil)) .nil))) (.tup (.cons (.c (.str "BadKeys")) (.cons (.c (.int 0)) .nil))))) (.seq (.ite (.not (.call "_law_same" 9 (.cons (.call "_law_heard" 10 (.cons (.lam 4 [9, 1]) .nil)) (.cons (.var 2) .nil)))) (.seq (.ret (.c (.bl false))) .skip) .skip) .skip)) fr2) S R := by
  obtain ⟨kc1, h9⟩ := kc.set4 (some d) hlj
  have kp : Keep S (S.set (st.length + 4) (.cell (some d))) := by
    obtain ⟨x, hx⟩ := kc.2.2.2.2.1
    exact Keep.cell hx
  have hb1 : (S.set (st.length + 4) (.cell (some d)))[lb]? = some (.lst ds) := by
    rw [List.getElem?_set_ne (Ne.symm (kc_ne kc hb).1)]
    exact hb
  have hd1 := hd.keep kp
  have hds1 : ∀ x ∈ ds, KQ (S.set (st.length + 4) (.cell (some d))) x := fun x hx => (hds x hx).keep kp
  refine runS_ex.mpr ?_
  repeat fail
  generalize (S.set (st.length + 4) (.cell (some d))) = S1 at kc1 h9 hb1 hd1 hds1 ⊢
  refine (s_pair (E := fun _ _ => False) (n + 5) k (by omega) hd1.1 hd1.2).to fun r s2 h => ?_
  obtain ⟨rfl, f2⟩ := h
  have kc2 := kc1.fx0 f2 hlj
  have h92 := f2.get h9 (by simp)
  have hb2 := f2.get hb1 (by simp)
  have hd2 := hd1.keep (Keep.fx0 f2)
  have hds2 : ∀ x ∈ ds, KQ s2 x := fun x hx => (hds1 x hx).keep (Keep.fx0 f2)
  cases e : keysB k d with
  | true =>
    obtain ⟨a, as, rfl, la, ha⟩ := keysB_form (by omega) e
    repeat fail
    refine (s_ktext (E := fun _ _ => False) (n + 7) ha).to fun d s3 h => ?_
    obtain ⟨rfl, f3⟩ := h
    have kc3 := kc2.fx0 f3 hlj
    have h93 := f3.get h92 (by simp)
    have hb3 := f3.get hb2 (by simp)
    have hds3 : ∀ x ∈ ds, KQ s3 x := fun x hx => (hds2 x hx).keep (Keep.fx0 f3)
    repeat fail
    refine s_heard (n + 6) 4 ?_
    refine s_lam (n + 6) 4 rfl rfl rfl (cells2 h93 kc3.1) rfl rfl ?_
    repeat fail
    refine s_keystext (n + 3) k hk (kq_keys (by omega)) (fun a' as' st' ed _ _ f => ?_) (fun st' ek f => ?_)
    · obtain ⟨rfl, rfl⟩ := keys_inj ed
      repeat fail
      have hdat : Dat 2 (.tup [.str "told", .str (kT a as)]) := dat_two dat_str dat_str
      refine (run_eq (same_at 2 hdat (by omega))).mpr ?_
      repeat fail
      exact hP _ _ (kc3.fx0 f hlj) (f.get hb3 (by simp)) fun x hx => (hds3 x hx).keep (Keep.fx0 f)
    · rw [e] at ek
      cases ek
  | false =>
    repeat fail
    refine s_heard (n + 6) 4 ?_
    refine s_lam (n + 6) 4 rfl rfl rfl (cells2 h92 kc2.1) rfl rfl ?_
    repeat fail
    refine s_keystext (n + 3) k hk hd2.1 (fun a' as' st' ed ek _ f => ?_) (fun st' ek f => ⟨"BadKeys", rfl, fun s' f' => ?_⟩)
    · rw [e] at ek
      cases ek
    · have fz := f.trans f'
      repeat fail
      have hdat : Dat 2 (.tup [.str "BadKeys", .int 0]) := dat_two dat_str dat_int
      refine (run_eq (same_at 2 hdat (by omega))).mpr ?_
      repeat fail
      exact hP _ _ (kc2.fx0 fz hlj) (fz.get hb2 (by simp)) fun x hx => (hds2 x hx).keep (Keep.fx0 fz)
theorem s_right (n k : Nat) {j : Nat} {st : Store} (hj : J st j) (hk : k ≤ 40) : Run ((calls G (n + 9)).1 35 [.loc j, .int (k : Int)]) st (fun d s => d = .bl true ∧ J s j ∧ Fx [j] st s) fun _ _ => False := by
  have hz := sizeL
  have hlj := jar_lt hj
  refine rd_defC [some (.loc j), some (.int (k : Int)), none, none, none, none, none, none, none, none, none] [(1, st.length), (6, st.length + 1), (7, st.length + 2), (8, st.length + 3), (9, st.length + 4)] [.cell (some (.int (k : Int))), .cell none, .cell none, .cell none, .cell none] rfl rfl rfl rfl rfl rfl ?_
  unfold c35
  have f0 : Fx [j] st (st ++ [Ob.cell (some (.int (k : Int))), .cell none, .cell none, .cell none, .cell none]) := Fx.app _ _
  have c0 : (st ++ [Ob.cell (some (.int (k : Int))), .cell none, .cell none, .cell none, .cell none])[st.length]? = some (.cell (some (.int (k : Int)))) := by simp
  have c1 : (st ++ [Ob.cell (some (.int (k : Int))), .cell none, .cell none, .cell none, .cell none])[st.length + 1]? = some (.cell none) := by simp
  have c2 : (st ++ [Ob.cell (some (.int (k : Int))), .cell none, .cell none, .cell none, .cell none])[st.length + 2]? = some (.cell none) := by simp
  have c3 : (st ++ [Ob.cell (some (.int (k : Int))), .cell none, .cell none, .cell none, .cell none])[st.length + 3]? = some (.cell none) := by simp
  have c4 : (st ++ [Ob.cell (some (.int (k : Int))), .cell none, .cell none, .cell none, .cell none])[st.length + 4]? = some (.cell none) := by simp
  have j0 := hj.fx (Fx.app (S := []) st [Ob.cell (some (.int (k : Int))), .cell none, .cell none, .cell none, .cell none]) (by simp)
  generalize (st ++ [Ob.cell (some (.int (k : Int))), .cell none, .cell none, .cell none, .cell none]) = S0 at f0 c0 c1 c2 c3 c4 j0 ⊢
  have hn : ∀ i, st.length + i ∉ [j] := fun i => by rw [List.mem_singleton]; omega
  repeat fail
  refine (s_somekeys (n + 4) k j0 (by omega)).to fun d s1 h => ?_
  obtain ⟨a, as, rfl, la, ha, j1, f1⟩ := h
  have g0 := f1.get c0 (hn 0)
  have g1 := f1.get c1 (hn 1)
  have g2 := f1.get c2 (hn 2)
  have g3 := f1.get c3 (hn 3)
  have g4 := f1.get c4 (hn 4)
  have h0 : (s1.set (st.length + 3) (.cell (some (.tup [.int a, .tup (as.map D.int)]))))[st.length]? = some (.cell (some (.int (k : Int)))) := by rw [List.getElem?_set_ne (by omega)]; exact g0
  have h1 : (s1.set (st.length + 3) (.cell (some (.tup [.int a, .tup (as.map D.int)]))))[st.length + 1]? = some (.cell none) := by rw [List.getElem?_set_ne (by omega)]; exact g1
  have h2 : (s1.set (st.length + 3) (.cell (some (.tup [.int a, .tup (as.map D.int)]))))[st.length + 2]? = some (.cell none) := by rw [List.getElem?_set_ne (by omega)]; exact g2
  have h4 : (s1.set (st.length + 3) (.cell (some (.tup [.int a, .tup (as.map D.int)]))))[st.length + 4]? = some (.cell none) := by rw [List.getElem?_set_ne (by omega)]; exact g4
  have h3 := set_at (o := .cell (some (.tup [.int a, .tup (as.map D.int)]))) g3
  have f2 : Fx [j] st (s1.set (st.length + 3) (.cell (some (.tup [.int a, .tup (as.map D.int)])))) := (f0.trans f1).setNew (by omega)
  have j2 : J (s1.set (st.length + 3) (.cell (some (.tup [.int a, .tup (as.map D.int)])))) j := j1.fx (Fx.set (S := [st.length + 3]) (by simp)) (by rw [List.mem_singleton]; omega)
  repeat fail
  generalize (s1.set (st.length + 3) (.cell (some (.tup [.int a, .tup (as.map D.int)])))) = S1 at h0 h1 h2 h3 h4 f2 j2 ⊢
  refine (s_ktext (E := fun _ _ => False) (n + 7) ha).to fun d s2 h => ?_
  obtain ⟨rfl, f3⟩ := h
  have hT := kT_ok ha
  have hTl := kT_len ha
  have hTa := kT_ascii ha
  have hpr := rk_print ha la
  generalize et : kT a as = t at hT hTl hTa hpr ⊢
  have kc : KC st j k t (.tup [.int a, .tup (as.map D.int)]) (s2.set (st.length + 2) (.cell (some (.str t)))) := by
    refine ⟨by rw [List.getElem?_set_ne (by omega)]; exact f3.get h0 (by simp), set_at (f3.get h2 (by simp)), by rw [List.getElem?_set_ne (by omega)]; exact f3.get h3 (by simp), ⟨_, by rw [List.getElem?_set_ne (by omega)]; exact f3.get h1 (by simp)⟩, ⟨_, by rw [List.getElem?_set_ne (by omega)]; exact f3.get h4 (by simp)⟩, (j2.fx f3 (by simp)).fx (Fx.set (S := [st.length + 2]) (by simp)) (by rw [List.mem_singleton]; omega), (f2.trans f3.none).setNew (by omega)⟩
  repeat fail
  generalize (s2.set (st.length + 2) (.cell (some (.str t)))) = S2 at kc ⊢
  refine (s_tells (n + 1) 2 (owed := .str t) dat_str ?_).to fun d s3 h => ?_
  · refine s_lam (n + 5) 2 rfl rfl rfl (cells2 kc.1 kc.2.2.1) rfl rfl ?_
    repeat fail
    refine s_keystext (n + 2) k hk (kq_keys (by omega)) (fun a' as' st' ed _ _ f => ?_) (fun st' ek f => ?_)
    · obtain ⟨rfl, rfl⟩ := keys_inj ed
      exact ⟨by rw [et], f⟩
    · rw [keysB_yes ha la] at ek
      cases ek
  obtain ⟨rfl, f4⟩ := h
  have kc := kc.fx0 f4 hlj
  repeat fail
  refine (s_tells (n + 1) 3 (owed := .tup [.int a, .tup (as.map D.int)]) (dat_two dat_int (dat_ints (by omega))) ?_).to fun d s4 h => ?_
  · refine s_lam (n + 5) 3 rfl rfl rfl (cells2 kc.1 kc.2.1) rfl rfl ?_
    repeat fail
    refine (s_read n k hk (by omega)).imp (fun d s h => ?_) (fun x s h => ?_)
    · obtain ⟨f, a', as', e, rfl⟩ := h
      rw [hpr] at e
      injection e with e1 e2
      rw [e1, e2]
      exact ⟨rfl, f⟩
    · rw [hpr] at h
      exact h.2.elim
  obtain ⟨rfl, f5⟩ := h
  have kc := kc.fx0 f5 hlj
  repeat fail
  refine (s_bentkeys (n + 4) k kc.2.2.2.2.2.1 (by omega) (by omega)).to fun d s5 h => ?_
  obtain ⟨lb, ds, rfl, hds, hdl, hdq, hlb, j6, f6⟩ := h
  have kc := kc.fx f6 j6 hlj
  repeat fail
  refine p_itOf (src_loc hds) ?_
  generalize hm : D.tup [.int a, .tup (as.map D.int)] = m at kc ⊢
  refine for_run (fun r fr s => ∃ o z, (∀ d ∈ r, d ∈ ds) ∧ fr = ⟨[some (.loc j), some (.int (k : Int)), o, none, none, none, none, some (.str t), some m, z, none], [(1, st.length), (6, st.length + 1), (7, st.length + 2), (8, st.length + 3), (9, st.length + 4)]⟩ ∧ KC st j k t m s ∧ s[lb]? = some (.lst ds) ∧ (∀ x ∈ ds, KQ s x)) (fun r fr s h => by obtain ⟨o, z, h1, h2, h3, h4, h5⟩ := h; exact chk_at (.inl h4)) ?_ ?_ _ _ _ ⟨none, none, fun d h => h, rfl, kc, hds, hdq⟩
  · rintro d r fr s ⟨o, z, hr, rfl, kc, hb, hq⟩
    exact one_bent n k hk hlj kc (hq d (hr d List.mem_cons_self)) hb hq (fun o s kc hb hq => ⟨o, some d, fun x hx => hr x (List.mem_cons_of_mem _ hx), rfl, kc, hb, hq⟩)
  · rintro fr s ⟨o, z, _, rfl, kc, hb, hq⟩
    repeat fail
    refine (s_texts (n + 4) kc.2.2.2.2.2.1 ⟨hT, hTl⟩ hTa).to fun d s6 h => ?_
    obtain ⟨lt, ws, rfl, hlt, hwl, hws, hltl, j7, f7⟩ := h
    have kc7 := kc.fx f7 j7 hlj
    have hltj : lt ∉ [j] := by
      rw [List.mem_singleton]
      have := jar_lt kc.2.2.2.2.2.1
      omega
    repeat fail
    refine p_biop (len_str (by omega)) ?_
    repeat fail
    refine (s_take (E := fun _ _ => False) (n + 7) j7 (by omega) (by omega)).to fun d s8 h => ?_
    obtain ⟨r8, rfl, hr8, j8, f8⟩ := h
    have kc8 := kc7.fx f8 j8 hlj
    have hlt8 := f8.get hlt hltj
    repeat fail
    refine (run_eq (s_foreign (n + 7))).mpr ?_
    repeat fail
    have hlj8 := jar_lt j8
    refine (s_one (E := fun _ _ => False) (n + 6) (j8.fx (Fx.app (S := []) s8 _) (by simp)) app_at (by omega) (by decide +kernel) (by decide +kernel)).to fun d s9 h => ?_
    obtain ⟨hs, j9, f9⟩ := h
    obtain ⟨w, hw, rfl⟩ := List.mem_map.mp hs
    have kw := foreign_ok w hw
    have f9' := (Fx.app (S := [j]) s8 [Ob.lst (foreignL.map .str)]).trans f9
    have kc9 := kc8.fx f9' j9 hlj
    have hlt9 := f9'.get hlt8 hltj
    repeat fail
    refine p_methOk (ok_lst hlt9 (by rw [lm_extend]; rfl)) ?_
    have ht : TOk 1000 t := ⟨hT, hTl⟩
    have k1 := tok_cut (lo := none) (hi := some (r8 : Int)) ht
    have k2 : ∀ v : Int, TOk 1000 (L2.cutS t (some v) none) := fun v => tok_cut ht
    have kw : TOk 1 w := kw
    have k3 := tok_app k1 kw
    repeat fail
    refine p_sl_str rfl rfl (by omega) ?_
    repeat fail
    refine p_app_w 5000 (by have := k1.2; omega) (by have := kw.2; omega) (by omega) ?_
    repeat fail
    refine p_sl_str rfl rfl (by omega) ?_
    repeat fail
    refine p_app_w 5000 (by have := k3.2; omega) (by have := (k2 (r8 : Int)).2; omega) (by omega) ?_
    repeat fail
    refine p_sl_str rfl rfl (by omega) ?_
    repeat fail
    refine p_app_w 5000 (by have := k1.2; omega) (by have := kw.2; omega) (by omega) ?_
    repeat fail
    refine p_sl_str rfl rfl (by omega) ?_
    repeat fail
    refine p_app_w 5000 (by have := k3.2; omega) (by have := (k2 ((r8 : Int) + 1)).2; omega) (by omega) ?_
    repeat fail
    have el : ws.map D.str ++ [.str (L2.cutS t none (some (r8 : Int)) ++ w ++ L2.cutS t (some (r8 : Int)) none), .str (L2.cutS t none (some (r8 : Int)) ++ w ++ L2.cutS t (some ((r8 : Int) + 1)) none)] = (ws ++ [L2.cutS t none (some (r8 : Int)) ++ w ++ L2.cutS t (some (r8 : Int)) none, L2.cutS t none (some (r8 : Int)) ++ w ++ L2.cutS t (some ((r8 : Int) + 1)) none]).map D.str := by
      rw [List.map_append]
      rfl
    have hws2 : ∀ v ∈ ws ++ [L2.cutS t none (some (r8 : Int)) ++ w ++ L2.cutS t (some (r8 : Int)) none, L2.cutS t none (some (r8 : Int)) ++ w ++ L2.cutS t (some ((r8 : Int) + 1)) none], TOk 100000 v := by
      intro v hv
      rcases List.mem_append.mp hv with h | h
      · exact hws v h
      · simp only [List.mem_cons, List.not_mem_nil, or_false] at h
        rcases h with rfl | rfl
        · exact (tok_app k3 (k2 _)).le (by omega)
        · exact (tok_app k3 (k2 _)).le (by omega)
    have hwl2 : (ws ++ [L2.cutS t none (some (r8 : Int)) ++ w ++ L2.cutS t (some (r8 : Int)) none, L2.cutS t none (some (r8 : Int)) ++ w ++ L2.cutS t (some ((r8 : Int) + 1)) none]).length ≤ 102 := by simp; omega
    have fa := Fx.app (S := []) s9 [Ob.lst [.str (L2.cutS t none (some (r8 : Int)) ++ w ++ L2.cutS t (some (r8 : Int)) none), .str (L2.cutS t none (some (r8 : Int)) ++ w ++ L2.cutS t (some ((r8 : Int) + 1)) none)]]
    have hlta := fa.get hlt9 (by simp)
    have kca := kc9.fx0 fa hlj
    refine p_methD (m_lst hlta lm_extend (ext_ok app_at (by rw [List.length_map]; simp; omega))) ?_
    repeat fail
    rw [el]
    generalize hW2 : (ws ++ [L2.cutS t none (some (r8 : Int)) ++ w ++ L2.cutS t (some (r8 : Int)) none, L2.cutS t none (some (r8 : Int)) ++ w ++ L2.cutS t (some ((r8 : Int) + 1)) none]) = W2 at hws2 hwl2 ⊢
    have fb := (fa.none (S := [lt])).trans (Fx.set (S := [lt]) (o := Ob.lst (W2.map D.str)) (List.mem_singleton.mpr rfl))
    have hltb := set_at (o := Ob.lst (W2.map D.str)) hlta
    have ltn : st.length + 5 ≤ lt ∨ True := .inr trivial
    have kcb : KC st j k t m ((s9 ++ [Ob.lst [.str (L2.cutS t none (some (r8 : Int)) ++ w ++ L2.cutS t (some (r8 : Int)) none), .str (L2.cutS t none (some (r8 : Int)) ++ w ++ L2.cutS t (some ((r8 : Int) + 1)) none)]]).set lt (.lst (W2.map D.str))) := by
      obtain ⟨h1, h2, h3, ⟨y, h4⟩, ⟨z, h5⟩, h6, h7⟩ := kca
      have nn : ∀ {c : Nat} {x : Option D}, (s9 ++ [Ob.lst [.str (L2.cutS t none (some (r8 : Int)) ++ w ++ L2.cutS t (some (r8 : Int)) none), .str (L2.cutS t none (some (r8 : Int)) ++ w ++ L2.cutS t (some ((r8 : Int) + 1)) none)]])[c]? = some (.cell x) → ((s9 ++ [Ob.lst [.str (L2.cutS t none (some (r8 : Int)) ++ w ++ L2.cutS t (some (r8 : Int)) none), .str (L2.cutS t none (some (r8 : Int)) ++ w ++ L2.cutS t (some ((r8 : Int) + 1)) none)]]).set lt (.lst (W2.map D.str)))[c]? = some (.cell x) := fun h => set_out h hlta (by intro z; cases z)
      refine ⟨nn h1, nn h2, nn h3, ⟨_, nn h4⟩, ⟨_, nn h5⟩, h6.fx (Fx.set (S := [lt]) (by simp)) (by rw [List.mem_singleton] at hltj ⊢; exact fun z => hltj z.symm), ?_⟩
      have := kc.2.2.2.2.2.2.1
      exact h7.setNew (by omega)
    generalize ((s9 ++ [Ob.lst [.str (L2.cutS t none (some (r8 : Int)) ++ w ++ L2.cutS t (some (r8 : Int)) none), .str (L2.cutS t none (some (r8 : Int)) ++ w ++ L2.cutS t (some ((r8 : Int) + 1)) none)]]).set lt (.lst (W2.map D.str))) = S10 at hltb kcb ⊢
    have kcc := kcb.fx0 (Fx.app (S := []) S10 [Ob.lst [.int (k : Int), .int ((k : Int) + 1), .int (if (k : Int) - 1 > 0 then (k : Int) - 1 else 0)]]) hlj
    have hltc := (Fx.app (S := []) S10 [Ob.lst [.int (k : Int), .int ((k : Int) + 1), .int (if (k : Int) - 1 > 0 then (k : Int) - 1 else 0)]]).get hltb (by simp)
    refine p_itOf (src_loc app_at) ?_
    have hszs : ∀ x ∈ [D.int (k : Int), .int ((k : Int) + 1), .int (if (k : Int) - 1 > 0 then (k : Int) - 1 else 0)], ∃ v : Nat, x = .int (v : Int) := by
      intro x hx
      simp only [List.mem_cons, List.not_mem_nil, or_false] at hx
      rcases hx with rfl | rfl | rfl
      · exact ⟨k, rfl⟩
      · exact ⟨k + 1, rfl⟩
      · split
        · exact ⟨k - 1, by congr 1; omega⟩
        · exact ⟨0, rfl⟩
    have haz : (S10 ++ [Ob.lst [D.int (k : Int), .int ((k : Int) + 1), .int (if (k : Int) - 1 > 0 then (k : Int) - 1 else 0)]])[S10.length]? = some (.lst [D.int (k : Int), .int ((k : Int) + 1), .int (if (k : Int) - 1 > 0 then (k : Int) - 1 else 0)]) := app_at
    generalize (S10 ++ [Ob.lst [D.int (k : Int), .int ((k : Int) + 1), .int (if (k : Int) - 1 > 0 then (k : Int) - 1 else 0)]]) = S11 at kcc hltc haz ⊢
    generalize S10.length = lz at haz ⊢
    generalize [D.int (k : Int), .int ((k : Int) + 1), .int (if (k : Int) - 1 > 0 then (k : Int) - 1 else 0)] = zs at hszs haz ⊢
    refine for_run (fun r fr s => ∃ z6, (∀ d ∈ r, d ∈ zs) ∧ fr = ⟨[some (.loc j), some (.int (k : Int)), o, some (.loc lt), some (.int (r8 : Int)), some (.str w), z6, some (.str t), some m, z, none], [(1, st.length), (6, st.length + 1), (7, st.length + 2), (8, st.length + 3), (9, st.length + 4)]⟩ ∧ KC st j k t m s ∧ s[lt]? = some (.lst (W2.map D.str)) ∧ s[lz]? = some (.lst zs)) (fun r fr s h => by obtain ⟨z6, h1, h2, h3, h4, h5⟩ := h; exact chk_at (.inl h5)) ?_ ?_ _ _ _ ⟨none, fun d h => h, rfl, kcc, hltc, haz⟩
    · rintro d r fr s ⟨z6, hr, rfl, kc, h1, h2⟩
      obtain ⟨v, rfl⟩ := hszs d (hr d List.mem_cons_self)
      have kcd := kc.set1 (some (.int (v : Int))) hlj
      have h1' : (s.set (st.length + 1) (.cell (some (.int (v : Int)))))[lt]? = some (.lst (W2.map D.str)) := by
        rw [List.getElem?_set_ne (Ne.symm (kc_ne kc h1).2)]
        exact h1
      have h2' : (s.set (st.length + 1) (.cell (some (.int (v : Int)))))[lz]? = some (.lst zs) := by
        rw [List.getElem?_set_ne (Ne.symm (kc_ne kc h2).2)]
        exact h2
      refine runS_ex.mpr ?_
      repeat fail
      generalize (s.set (st.length + 1) (.cell (some (.int (v : Int))))) = Sa at kcd h1' h2' ⊢
      refine p_itOf (src_loc h1') ?_
      refine ⟨by show (List.map _ _).length ≤ _; rw [List.length_map]; omega, ?_⟩
      refine (lc_run (E := fun _ _ => False) (fun r' a s2 => a = [] ∧ (∀ d ∈ r', ∃ v, d = .str v ∧ TOk 100000 v) ∧ Fx [] Sa s2) (fun r' a s2 h => chk_at (.inl (h.2.2.get h1' (by simp)))) ?_ _ [] _ ⟨rfl, fun d hd => ?_, Fx.refl _⟩).to fun res s2 kk => ?_
      · rintro d r' a s2 ⟨rfl, hr', fs⟩
        obtain ⟨u, rfl, hu⟩ := hr' d List.mem_cons_self
        refine lcT_run.mpr ?_
        repeat fail
        have hmin : ∃ m : Nat, (if (40 : Int) < (v : Int) then (40 : Int) else (v : Int)) = (m : Int) ∧ m ≤ 40 := by
          by_cases c : (40 : Int) < (v : Int)
          · exact ⟨40, by rw [if_pos c]; rfl, by omega⟩
          · exact ⟨v, by rw [if_neg c], by omega⟩
        obtain ⟨q, eq, hq40⟩ := hmin
        rw [eq]
        refine (s_readright n q hq40 (by have := hu.2; omega) hu.1).to fun d s3 h => ?_
        obtain ⟨rfl, f3⟩ := h
        repeat fail
        exact ⟨rfl, fun d hd => hr' d (List.mem_cons_of_mem _ hd), fs.trans f3⟩
      · obtain ⟨u, hu, rfl⟩ := List.mem_map.mp hd
        exact ⟨u, rfl, hws2 u hu⟩
      obtain ⟨e, _, fs⟩ := kk
      rw [List.nil_append] at e
      subst e
      have fz := (fs.apps [Ob.lst []]).apps [Ob.lst []]
      have kcz := kcd.fx0 fz hlj
      repeat fail
      refine p_cmpop (r_nen (.inl app2_0) app2_1 (fun d hd => by cases hd)) ?_
      repeat fail
      exact ⟨_, fun d hd => hr d (List.mem_cons_of_mem _ hd), rfl, kcz, fz.get h1' (by simp), fz.get h2' (by simp)⟩
    · rintro fr s ⟨z6, _, rfl, kc, h1, h2⟩
      repeat fail
      exact ⟨rfl, kc.2.2.2.2.2.1.kill hlj, kc.2.2.2.2.2.2.kill (Nat.le_refl _)⟩
end MI.P

set_option Elab.async false
set_option linter.all false
set_option maxRecDepth 100000
set_option maxHeartbeats 4000000
/-! PLAIN, part 27: a far line. -/
namespace MI.P
open PySem K82
open TL (tl)
local macro_rules | `(tactic| fail) => `(tactic| first
  | with_reducible refine max_ok ?_
  | with_reducible refine min_ok ?_
  | with_reducible refine p_mul ?_ ?_
  | with_reducible refine p_mod ?_ ?_
  | with_reducible refine p_int ?_
  | with_reducible refine p_intb ?_
  | with_reducible refine p_add ?_
  | with_reducible refine p_ge ?_
  | ((with_reducible refine e_var.mpr ?_); refine ⟨_, rfl, ?_⟩)
  | with_reducible refine e_c.mpr ?_
  | with_reducible refine e_gv.mpr ?_
  | with_reducible refine e_bin.mpr ?_
  | with_reducible refine e_cmp.mpr ?_
  | with_reducible refine e_chain.mpr ?_
  | with_reducible refine e_neg.mpr ?_
  | with_reducible refine e_not.mpr ?_
  | with_reducible refine e_and.mpr ?_
  | with_reducible refine e_or.mpr ?_
  | with_reducible refine e_ife.mpr ?_
  | with_reducible refine e_nil.mpr ?_
  | with_reducible refine e_cons.mpr ?_
  | with_reducible refine e_consT.mpr ?_
  | with_reducible refine e_consU.mpr ?_
  | with_reducible refine e_rep.mpr ?_
  | with_reducible refine e_tup.mpr ?_
  | with_reducible refine e_lst.mpr ?_
  | with_reducible refine e_idx.mpr ?_
  | with_reducible refine e_part.mpr ?_
  | with_reducible refine e_sl.mpr ?_
  | with_reducible refine e_attr.mpr ?_
  | with_reducible refine e_call.mpr ?_
  | with_reducible refine e_make.mpr ?_
  | with_reducible refine e_meth.mpr ?_
  | with_reducible refine e_bi.mpr ?_
  | with_reducible refine e_isi.mpr ?_
  | with_reducible refine e_yes.mpr ?_
  | with_reducible refine e_lc.mpr ?_
  | with_reducible refine runS_seq.mpr ?_
  | with_reducible refine t_skip.mpr ?_
  | with_reducible refine t_asg.mpr ?_
  | with_reducible refine t_setf.mpr ?_
  | with_reducible refine t_augf.mpr ?_
  | with_reducible refine t_seti.mpr ?_
  | with_reducible refine t_exp.mpr ?_
  | with_reducible refine t_ite.mpr ?_
  | with_reducible refine t_ret.mpr ?_
  | with_reducible refine t_retn.mpr ?_
  | with_reducible refine t_raise.mpr ?_
  | with_reducible refine t_for.mpr ?_
  | with_reducible refine k_nx ?_
  | with_reducible refine k_rt ?_
  | with_reducible refine k_xx ?_
  | with_reducible refine q_nx ?_
  | with_reducible refine q_rt ?_
  | with_reducible refine q_xx ?_
  | ((with_reducible refine g_isiD ?_); refine p_isiD rfl ?_)
  | ((with_reducible refine g_cmpop ?_); refine p_cmpop rfl ?_)
  | ((with_reducible refine g_binop ?_); refine p_binop rfl ?_)
  | ((with_reducible refine g_consD ?_); refine p_consD rfl ?_)
  | ((with_reducible refine g_biop ?_); refine p_biop rfl ?_)
  | ((with_reducible refine g_idxD ?_); refine p_idxD rfl ?_)
  | ((with_reducible refine g_sliD ?_); refine p_sliD rfl ?_)
  | ((with_reducible refine g_augop ?_); refine p_augop rfl ?_)
  | ((with_reducible refine g_setiD ?_); refine p_setiD rfl ?_)
  | ((with_reducible refine g_srcOf ?_); refine p_srcOf rfl ?_)
  | ((with_reducible refine g_repD ?_); refine p_repD rfl ?_)
  | with_reducible refine b_nm0 ?_
  | ((with_reducible refine b_nm ?h0 ?_); (case h0 => rfl))
  | ((with_reducible refine g_bindT ?_); refine p_bindT rfl ?_)
  | ((with_reducible refine g_itOf ?_); refine p_itOf rfl ?_)
  | ((with_reducible refine e_lam.mpr ?_); refine ⟨_, rfl, ?_⟩)
  | ((with_reducible refine t_aug.mpr ?_); refine ⟨_, rfl, ?_⟩)
  | ((with_reducible refine ex_tup ?h0 ?_); (case h0 => exact Nat.le_of_ble_eq_true rfl))
  | with_reducible refine br_t ?_
  | with_reducible refine br_f ?_
  | with_reducible refine br_nd (fun h => ?_) (fun h => ?_)
  | with_reducible refine br_d (fun h => ?_) (fun h => ?_)
  | ((with_reducible refine br_g ?_); refine br_t ?_)
  | ((with_reducible refine br_g ?_); refine br_f ?_)
  | with_reducible refine br_n (fun h => ?_) (fun h => ?_)
  | with_reducible refine br_b (fun h => ?_) (fun h => ?_)
  | with_reducible refine ⟨_, rfl, ?_⟩)
def spcN (N : Nat) : Str := ⟨(List.replicate N 32).toArray⟩
theorem tl_spc {N : Nat} : tl (spcN N) = List.replicate N 32 := rfl
def farN (N : Nat) : Str := "keys 1" ++ spcN N
theorem e6k : tl ("keys 1" : Str) = tl ("keys" : Str) ++ 32 :: tl ("1" : Str) := by decide +kernel
theorem l6k : ("keys 1" : Str).length = 6 := by decide +kernel
theorem far_len {N : Nat} : (farN N).length = 6 + N := by
  unfold farN
  rw [slen, TL.tl_append, List.length_append, ← slen, l6k, tl_spc, List.length_replicate]
theorem e_sp : tl (" " : Str) = [32] := by decide +kernel
theorem e_em : tl ("" : Str) = [] := by decide +kernel
theorem join_em : ∀ N : Nat, tl (Str.join " " ("1" :: List.replicate N "")) = tl ("1" : Str) ++ List.replicate N 32
  | 0 => by
    show tl ("1" : Str) = _
    simp
  | N + 1 => by
    have aux : ∀ N : Nat, tl (Str.join " " ("" :: List.replicate N "")) = List.replicate N 32 := by
      intro N
      induction N with
      | zero => exact e_em
      | succ N ih =>
        rw [List.replicate_succ]
        show tl ("" ++ " " ++ Str.join " " ("" :: List.replicate N "")) = _
        rw [TL.tl_append, TL.tl_append, ih, e_em, e_sp, List.replicate_succ]
        rfl
    rw [List.replicate_succ]
    show tl ("1" ++ " " ++ Str.join " " ("" :: List.replicate N "")) = _
    rw [TL.tl_append, TL.tl_append, aux, e_sp, List.replicate_succ, List.append_assoc]
    rfl
theorem far_join {N : Nat} : farN N = Str.join " " ("keys" :: "1" :: List.replicate N "") := by
  apply TL.ext_tl
  show tl (farN N) = tl ("keys" ++ " " ++ Str.join " " ("1" :: List.replicate N ""))
  rw [TL.tl_append, TL.tl_append, join_em, e_sp]
  unfold farN
  rw [TL.tl_append, e6k, tl_spc]
  simp
theorem far_chars {N : Nat} : ∀ c ∈ tl (farN N), c < 128 ∧ c ≠ 10 := by
  intro c hc
  unfold farN at hc
  rw [TL.tl_append, List.mem_append, tl_spc] at hc
  rcases hc with hc | hc
  · have : (tl ("keys 1" : Str)).all (fun c => decide (c < 128) && decide (c ≠ 10)) = true := by decide +kernel
    have := List.all_eq_true.mp this c hc
    simpa using this
  · rw [List.eq_of_mem_replicate hc]
    omega
theorem far_ok {N : Nat} : cOk (farN N) := fun c hc => by
  have := (far_chars (N := N) c hc).1
  omega
theorem far_split {N : Nat} : Txt.split (farN N) " " = ("keys" : Str) :: ("1" : Str) :: List.replicate N ("" : Str) := by
  have := TL.split_join (y := " ") (s := 32) (S := []) e_sp (by decide +kernel) (parts := "keys" :: "1" :: List.replicate N "") (by simp) (fun p hp hm => by
    rcases List.mem_cons.mp hp with rfl | hp
    · revert hm
      decide +kernel
    rcases List.mem_cons.mp hp with rfl | hp
    · revert hm
      decide +kernel
    · rw [List.eq_of_mem_replicate hp, e_em] at hm
      cases hm)
  rw [TL.join_eq, ← far_join] at this
  exact this
theorem far_lines {N : Nat} : Txt.split (farN N) "\n" = [farN N] := by
  have := TL.split_join (y := "\n") (s := 10) (S := []) (by decide +kernel) (by decide +kernel) (parts := [farN N]) (by simp) (fun p hp hm => by
    rw [List.mem_singleton.mp hp] at hm
    exact (far_chars 10 hm).2 rfl)
  rw [TL.join_eq] at this
  exact this
theorem far_rk {N : Nat} (h0 : 1 ≤ N) (h1 : N ≤ 399994) : RK 0 (farN N) = .wrong 0 2 := by
  have hF : firstW (farN N) = ("keys" : Str) :: ("1" : Str) :: List.replicate N ("" : Str) := by
    unfold firstW
    rw [far_lines]
    exact far_split
  have g1 : inO ((("keys" : Str) :: ("1" : Str) :: List.replicate N ("" : Str)).getD 1 "") 1 1000000 = some 1 := by
    show inO "1" 1 1000000 = some 1
    have e : ("1" : Str) = numS 1 := by decide +kernel
    rw [e]
    exact in_numS (by omega) (by omega) (by omega) (by omega)
  have hl : (("keys" : Str) :: ("1" : Str) :: List.replicate N ("" : Str)).length = N + 2 := by simp
  have up : Upto (("keys" : Str) :: ("1" : Str) :: List.replicate N ("" : Str)) 0 2 := by
    intro j hj
    refine ⟨by rw [hl]; omega, ?_⟩
    match j, hj with
    | 0, _ => rw [lets0]; rfl
    | 1, _ => rw [lets1, g1]; rfl
  have hw := wrong_end (k := 0) up
  rw [hl, if_pos (by omega)] at hw
  unfold RK
  rw [if_pos (by rw [far_len]; omega), hF, hl, hw]
theorem far_many {N : Nat} (h : N = 399994) : RK 0 (farN N ++ " ") = .many 400001 := by
  have : (farN N ++ " ").length = 400001 := by
    rw [slen, TL.tl_append, List.length_append, ← slen, far_len, e_sp]
    simp
    omega
  unfold RK
  rw [if_neg (by rw [this]; omega), this]
theorem mul_spc {N : Nat} {v : Int} {st : Store} (hv : v = (N : Int)) (h0 : 1 ≤ N) (h1 : N ≤ 1000000) : binop .mul (.str " ") (.int v) st = .ok (.str (spcN N)) st := by
  have hz := sizeL
  show bnd (guard (decide (1 ≤ v) && decide ((" " : Str).length * v.toNat ≤ sizeLine) && decide (v < 2 ^ 32))) (fun _ => ret (D.str ⟨(List.replicate v.toNat (" " : Str).cps.toList).flatten.toArray⟩)) st = _
  have e1 : (decide (1 ≤ v) && decide ((" " : Str).length * v.toNat ≤ sizeLine) && decide (v < 2 ^ 32)) = true := by
    rw [len_sp1]
    simp
    omega
  have e2 : (⟨(List.replicate v.toNat (" " : Str).cps.toList).flatten.toArray⟩ : Str) = spcN N := by
    apply TL.ext_tl
    show (List.replicate v.toNat (tl (" " : Str))).flatten = _
    rw [e_sp, hv, Int.toNat_natCast, tl_spc]
    simp
  rw [e1, e2]
  rfl
end MI.P

set_option Elab.async false
set_option linter.all false
set_option maxRecDepth 100000
set_option maxHeartbeats 4000000
/-! PLAIN, part 28: the law. -/
namespace MI.P
open PySem K82
open TL (tl)
local macro_rules | `(tactic| fail) => `(tactic| first
  | with_reducible refine max_ok ?_
  | with_reducible refine min_ok ?_
  | with_reducible refine p_mul ?_ ?_
  | with_reducible refine p_mod ?_ ?_
  | with_reducible refine p_int ?_
  | with_reducible refine p_intb ?_
  | with_reducible refine p_add ?_
  | with_reducible refine p_ge ?_
  | ((with_reducible refine e_var.mpr ?_); refine ⟨_, rfl, ?_⟩)
  | with_reducible refine e_c.mpr ?_
  | with_reducible refine e_gv.mpr ?_
  | with_reducible refine e_bin.mpr ?_
  | with_reducible refine e_cmp.mpr ?_
  | with_reducible refine e_chain.mpr ?_
  | with_reducible refine e_neg.mpr ?_
  | with_reducible refine e_not.mpr ?_
  | with_reducible refine e_and.mpr ?_
  | with_reducible refine e_or.mpr ?_
  | with_reducible refine e_ife.mpr ?_
  | with_reducible refine e_nil.mpr ?_
  | with_reducible refine e_cons.mpr ?_
  | with_reducible refine e_consT.mpr ?_
  | with_reducible refine e_consU.mpr ?_
  | with_reducible refine e_rep.mpr ?_
  | with_reducible refine e_tup.mpr ?_
  | with_reducible refine e_lst.mpr ?_
  | with_reducible refine e_idx.mpr ?_
  | with_reducible refine e_part.mpr ?_
  | with_reducible refine e_sl.mpr ?_
  | with_reducible refine e_attr.mpr ?_
  | with_reducible refine e_call.mpr ?_
  | with_reducible refine e_make.mpr ?_
  | with_reducible refine e_meth.mpr ?_
  | with_reducible refine e_bi.mpr ?_
  | with_reducible refine e_isi.mpr ?_
  | with_reducible refine e_yes.mpr ?_
  | with_reducible refine e_lc.mpr ?_
  | with_reducible refine runS_seq.mpr ?_
  | with_reducible refine t_skip.mpr ?_
  | with_reducible refine t_asg.mpr ?_
  | with_reducible refine t_setf.mpr ?_
  | with_reducible refine t_augf.mpr ?_
  | with_reducible refine t_seti.mpr ?_
  | with_reducible refine t_exp.mpr ?_
  | with_reducible refine t_ite.mpr ?_
  | with_reducible refine t_ret.mpr ?_
  | with_reducible refine t_retn.mpr ?_
  | with_reducible refine t_raise.mpr ?_
  | with_reducible refine t_for.mpr ?_
  | with_reducible refine k_nx ?_
  | with_reducible refine k_rt ?_
  | with_reducible refine k_xx ?_
  | with_reducible refine q_nx ?_
  | with_reducible refine q_rt ?_
  | with_reducible refine q_xx ?_
  | ((with_reducible refine g_isiD ?_); refine p_isiD rfl ?_)
  | ((with_reducible refine g_cmpop ?_); refine p_cmpop rfl ?_)
  | ((with_reducible refine g_binop ?_); refine p_binop rfl ?_)
  | ((with_reducible refine g_consD ?_); refine p_consD rfl ?_)
  | ((with_reducible refine g_biop ?_); refine p_biop rfl ?_)
  | ((with_reducible refine g_idxD ?_); refine p_idxD rfl ?_)
  | ((with_reducible refine g_sliD ?_); refine p_sliD rfl ?_)
  | ((with_reducible refine g_augop ?_); refine p_augop rfl ?_)
  | ((with_reducible refine g_setiD ?_); refine p_setiD rfl ?_)
  | ((with_reducible refine g_srcOf ?_); refine p_srcOf rfl ?_)
  | ((with_reducible refine g_repD ?_); refine p_repD rfl ?_)
  | with_reducible refine b_nm0 ?_
  | ((with_reducible refine b_nm ?h0 ?_); (case h0 => rfl))
  | ((with_reducible refine g_bindT ?_); refine p_bindT rfl ?_)
  | ((with_reducible refine g_itOf ?_); refine p_itOf rfl ?_)
  | ((with_reducible refine e_lam.mpr ?_); refine ⟨_, rfl, ?_⟩)
  | ((with_reducible refine t_aug.mpr ?_); refine ⟨_, rfl, ?_⟩)
  | ((with_reducible refine ex_tup ?h0 ?_); (case h0 => exact Nat.le_of_ble_eq_true rfl))
  | with_reducible refine br_t ?_
  | with_reducible refine br_f ?_
  | with_reducible refine br_nd (fun h => ?_) (fun h => ?_)
  | with_reducible refine br_d (fun h => ?_) (fun h => ?_)
  | ((with_reducible refine br_g ?_); refine br_t ?_)
  | ((with_reducible refine br_g ?_); refine br_f ?_)
  | with_reducible refine br_n (fun h => ?_) (fun h => ?_)
  | with_reducible refine br_b (fun h => ?_) (fun h => ?_)
  | with_reducible refine ⟨_, rfl, ?_⟩)
def LC (ob : Ob) (s : Store) : Prop := s[0]? = some ob ∧ (∃ x, s[1]? = some (.cell x)) ∧ (∃ x, s[2]? = some (.cell x)) ∧ (∃ x, s[3]? = some (.cell x)) ∧ 4 ≤ s.length
theorem LC.fx {ob : Ob} {s s' : Store} {j : Nat} (h : LC ob s) (f : Fx [j] s s') (hj : 4 ≤ j) : LC ob s' := by
  obtain ⟨h0, ⟨x, h1⟩, ⟨y, h2⟩, ⟨z, h3⟩, h4⟩ := h
  have hn : ∀ i, i < 4 → i ∉ [j] := fun i hi => by rw [List.mem_singleton]; omega
  exact ⟨f.get h0 (hn 0 (by omega)), ⟨x, f.get h1 (hn 1 (by omega))⟩, ⟨y, f.get h2 (hn 2 (by omega))⟩, ⟨z, f.get h3 (hn 3 (by omega))⟩, Nat.le_trans h4 f.1⟩
theorem LC.fx0 {ob : Ob} {s s' : Store} (h : LC ob s) (f : Fx [] s s') : LC ob s' := h.fx (f.none (S := [4])) (Nat.le_refl _)
theorem LC.set {ob : Ob} {s : Store} (h : LC ob s) (c : Nat) (hc : c = 1 ∨ c = 2 ∨ c = 3) (x : Option D) : LC ob (s.set c (.cell x)) := by
  obtain ⟨h0, ⟨a, h1⟩, ⟨b, h2⟩, ⟨d, h3⟩, h4⟩ := h
  have hl : (s.set c (.cell x)).length = s.length := List.length_set
  rcases hc with rfl | rfl | rfl
  · exact ⟨by rw [List.getElem?_set_ne (by omega)]; exact h0, ⟨_, set_at h1⟩, ⟨b, by rw [List.getElem?_set_ne (by omega)]; exact h2⟩, ⟨d, by rw [List.getElem?_set_ne (by omega)]; exact h3⟩, by omega⟩
  · exact ⟨by rw [List.getElem?_set_ne (by omega)]; exact h0, ⟨a, by rw [List.getElem?_set_ne (by omega)]; exact h1⟩, ⟨_, set_at h2⟩, ⟨d, by rw [List.getElem?_set_ne (by omega)]; exact h3⟩, by omega⟩
  · exact ⟨by rw [List.getElem?_set_ne (by omega)]; exact h0, ⟨a, by rw [List.getElem?_set_ne (by omega)]; exact h1⟩, ⟨b, by rw [List.getElem?_set_ne (by omega)]; exact h2⟩, ⟨_, set_at h3⟩, by omega⟩
def shortL : List Str := ["keys 2 1 0", "keys 10 3 12", "keys 1 0 0"]
theorem short_ok : ∀ x ∈ shortL, TOk 12 x := by
  intro x hx
  simp only [shortL, List.mem_cons, List.not_mem_nil, or_false] at hx
  rcases hx with rfl | rfl | rfl <;> exact tok_lit (by decide +kernel)
theorem Run.congr' {α : Type} {m : M α} {v : α} {st st' : Store} {Q : α → Store → Prop} {E : Ex → Store → Prop} (h : m st = .ok v st') (k : Q v st') : Run m st Q E := (run_eq h).mpr k
theorem far_all : ∃ sp far : Str, (∀ st, binop .mul (.str " ") (.int 399994) st = .ok (.str sp) st) ∧ ("keys 1" : Str) ++ sp = far ∧ ("keys 1" : Str).length + sp.length = 400000 ∧ far.length = 400000 ∧ RK 0 far = .wrong 0 2 ∧ RK 0 (far ++ " ") = .many 400001 ∧ cOk far := by
  obtain ⟨N, hN⟩ : ∃ N : Nat, N = 399994 := ⟨_, rfl⟩
  have hv : (399994 : Int) = (N : Int) := by omega
  refine ⟨spcN N, farN N, fun st => mul_spc hv (by omega) (by omega), rfl, ?_, ?_, far_rk (by omega) (by omega), far_many hN, far_ok⟩
  · rw [l6k, slen, tl_spc, List.length_replicate]
    omega
  · rw [far_len]
    omega
theorem far_end (n : Nat) {v : Int} {ob : Ob} {s : Store} {a1 a2 a3 a4 a5 : Option D} (hv : v = 399994) (h : LC ob s) : RunS (evs G (calls G (n + 10)).1 (calls G (n + 10)).2 (.seq (.asg (.nm 6) (.bin .add (.c (.str "keys 1")) (.bin .mul (.c (.str " ")) (.c (.int v))))) (.seq (.ite (.not (.call "_law_refuses" 12 (.cons (.lam 8 [6]) (.cons (.c (.str "WrongLine")) (.cons (.tup (.cons (.c (.int 0)) (.cons (.c (.int 2)) .nil))) .nil))))) (.seq (.ret (.c (.bl false))) .skip) .skip) (.seq (.ret (.call "_law_refuses" 12 (.cons (.lam 9 [6]) (.cons (.c (.str "TooMany")) (.cons (.c (.int 400001)) .nil))))) .skip))) ⟨[some (.loc 0), a1, a2, a3, a4, a5, none, none], [(4, 1), (5, 2), (6, 3)]⟩) s (Ended (fun d _ => d = .bl true) fun _ _ => False) := by
  obtain ⟨sp, far, hmul, hfd, hle, hlf, hrk, hmany, hok⟩ := far_all
  rw [← hv] at hmul
  iterate 7 fail
  refine p_binop (hmul _) ?_
  refine p_str_app (by omega) ?_
  rw [hfd]
  obtain ⟨x, h3⟩ := h.2.2.2.1
  have h3' := set_at (o := .cell (some (.str far))) h3
  repeat fail
  generalize (s.set 3 (.cell (some (.str far)))) = S at h3' ⊢
  refine (s_refuses (n + 3) 8 (what := .tup [.int 0, .int 2]) (dat_two dat_int dat_int) ?_).to fun d s2 h => ?_
  · refine s_lam (n + 7) 8 rfl rfl rfl (cells1 h3') rfl rfl ?_
    repeat fail
    refine (s_read (n + 2) 0 (t := far) (by omega) (by omega)).imp (fun d s h => ?_) (fun x s h => ?_)
    · obtain ⟨_, a, as, e, _⟩ := h
      rw [hrk] at e
      cases e
    · obtain ⟨f, h⟩ := h
      rw [hrk] at h
      have h : x = ⟨4, .tup [.int ((0 : Nat) : Int), .int ((2 : Nat) : Int)]⟩ := h
      rw [h]
      exact ⟨rfl, rfl, f⟩
  obtain ⟨rfl, f2⟩ := h
  have h3'' := f2.get h3' (by simp)
  repeat fail
  refine (s_refuses (n + 3) 9 (what := .int 400001) dat_int ?_).to fun d s3 h => ?_
  · refine s_lam (n + 7) 9 rfl rfl rfl (cells1 h3'') (body := .call "read_keys" 7 (.cons (.c (.int 0)) (.cons (.bin .add (.var 0) (.c (.str " "))) .nil))) (ρ := [some (.str far)]) rfl rfl ?_
    repeat fail
    refine p_app_w 400000 (by omega) (by rw [len_sp1]; omega) (by omega) ?_
    repeat fail
    have hl2 : (far ++ " ").length = 400001 := by
      rw [slen, TL.tl_append, List.length_append, ← slen, hlf, e_sp]
      rfl
    refine (s_read (n + 2) 0 (t := far ++ " ") (by omega) (by omega)).imp (fun d s h => ?_) (fun x s h => ?_)
    · obtain ⟨_, a, as, e, _⟩ := h
      rw [hmany] at e
      cases e
    · obtain ⟨f, h⟩ := h
      rw [hmany] at h
      have h : x = ⟨1, .int ((400001 : Nat) : Int)⟩ := h
      rw [h]
      exact ⟨rfl, rfl, f⟩
  obtain ⟨rfl, f3⟩ := h
  repeat fail
  exact rfl
end MI.P

set_option Elab.async false
set_option linter.all false
set_option maxRecDepth 100000
set_option maxHeartbeats 4000000
/-! PLAIN, part 29: the law, whole. -/
set_option pp.maxSteps 400
namespace MI.P
open PySem K82
open TL (tl)
local macro_rules | `(tactic| fail) => `(tactic| first
  | with_reducible refine max_ok ?_
  | with_reducible refine min_ok ?_
  | with_reducible refine p_mul ?_ ?_
  | with_reducible refine p_mod ?_ ?_
  | with_reducible refine p_int ?_
  | with_reducible refine p_intb ?_
  | with_reducible refine p_add ?_
  | with_reducible refine p_ge ?_
  | ((with_reducible refine e_var.mpr ?_); refine ⟨_, rfl, ?_⟩)
  | with_reducible refine e_c.mpr ?_
  | with_reducible refine e_gv.mpr ?_
  | with_reducible refine e_bin.mpr ?_
  | with_reducible refine e_cmp.mpr ?_
  | with_reducible refine e_chain.mpr ?_
  | with_reducible refine e_neg.mpr ?_
  | with_reducible refine e_not.mpr ?_
  | with_reducible refine e_and.mpr ?_
  | with_reducible refine e_or.mpr ?_
  | with_reducible refine e_ife.mpr ?_
  | with_reducible refine e_nil.mpr ?_
  | with_reducible refine e_cons.mpr ?_
  | with_reducible refine e_consT.mpr ?_
  | with_reducible refine e_consU.mpr ?_
  | with_reducible refine e_rep.mpr ?_
  | with_reducible refine e_tup.mpr ?_
  | with_reducible refine e_lst.mpr ?_
  | with_reducible refine e_idx.mpr ?_
  | with_reducible refine e_part.mpr ?_
  | with_reducible refine e_sl.mpr ?_
  | with_reducible refine e_attr.mpr ?_
  | with_reducible refine e_call.mpr ?_
  | with_reducible refine e_make.mpr ?_
  | with_reducible refine e_meth.mpr ?_
  | with_reducible refine e_bi.mpr ?_
  | with_reducible refine e_isi.mpr ?_
  | with_reducible refine e_yes.mpr ?_
  | with_reducible refine e_lc.mpr ?_
  | with_reducible refine runS_seq.mpr ?_
  | with_reducible refine t_skip.mpr ?_
  | with_reducible refine t_asg.mpr ?_
  | with_reducible refine t_setf.mpr ?_
  | with_reducible refine t_augf.mpr ?_
  | with_reducible refine t_seti.mpr ?_
  | with_reducible refine t_exp.mpr ?_
  | with_reducible refine t_ite.mpr ?_
  | with_reducible refine t_ret.mpr ?_
  | with_reducible refine t_retn.mpr ?_
  | with_reducible refine t_raise.mpr ?_
  | with_reducible refine t_for.mpr ?_
  | with_reducible refine k_nx ?_
  | with_reducible refine k_rt ?_
  | with_reducible refine k_xx ?_
  | with_reducible refine q_nx ?_
  | with_reducible refine q_rt ?_
  | with_reducible refine q_xx ?_
  | ((with_reducible refine g_isiD ?_); refine p_isiD rfl ?_)
  | ((with_reducible refine g_cmpop ?_); refine p_cmpop rfl ?_)
  | ((with_reducible refine g_binop ?_); refine p_binop rfl ?_)
  | ((with_reducible refine g_consD ?_); refine p_consD rfl ?_)
  | ((with_reducible refine g_biop ?_); refine p_biop rfl ?_)
  | ((with_reducible refine g_idxD ?_); refine p_idxD rfl ?_)
  | ((with_reducible refine g_sliD ?_); refine p_sliD rfl ?_)
  | ((with_reducible refine g_augop ?_); refine p_augop rfl ?_)
  | ((with_reducible refine g_setiD ?_); refine p_setiD rfl ?_)
  | ((with_reducible refine g_srcOf ?_); refine p_srcOf rfl ?_)
  | ((with_reducible refine g_repD ?_); refine p_repD rfl ?_)
  | with_reducible refine b_nm0 ?_
  | ((with_reducible refine b_nm ?h0 ?_); (case h0 => rfl))
  | ((with_reducible refine g_bindT ?_); refine p_bindT rfl ?_)
  | ((with_reducible refine g_itOf ?_); refine p_itOf rfl ?_)
  | ((with_reducible refine e_lam.mpr ?_); refine ⟨_, rfl, ?_⟩)
  | ((with_reducible refine t_aug.mpr ?_); refine ⟨_, rfl, ?_⟩)
  | ((with_reducible refine ex_tup ?h0 ?_); (case h0 => exact Nat.le_of_ble_eq_true rfl))
  | with_reducible refine br_t ?_
  | with_reducible refine br_f ?_
  | with_reducible refine br_nd (fun h => ?_) (fun h => ?_)
  | with_reducible refine br_d (fun h => ?_) (fun h => ?_)
  | ((with_reducible refine br_g ?_); refine br_t ?_)
  | ((with_reducible refine br_g ?_); refine br_f ?_)
  | with_reducible refine br_n (fun h => ?_) (fun h => ?_)
  | with_reducible refine br_b (fun h => ?_) (fun h => ?_)
  | with_reducible refine ⟨_, rfl, ?_⟩)
theorem law_plain : MI.PlainLaw K82.G 37 20 := by
  intro is ob hl hob
  have hz := sizeL
  have hq : ([ob] : Store)[0]? = some (.lst (is.map D.int)) ∨ ([ob] : Store)[0]? = some (.fro (is.map D.int)) := by
    rcases hob with rfl | rfl
    · exact .inl rfl
    · exact .inr rfl
  suffices h : Run ((calls G (20 + 1)).1 37 [.loc 0]) [ob] (fun d _ => d = .bl true) fun _ _ => False by
    obtain ⟨a, s, e, rfl⟩ := h.get
    exact ⟨s, e⟩
  refine rd_defC [some (.loc 0), none, none, none, none, none, none, none] [(4, 1), (5, 2), (6, 3)] [.cell none, .cell none, .cell none] rfl rfl rfl rfl rfl rfl ?_
  unfold c37
  generalize hv : (399994 : Int) = v
  have lc0 : LC ob ([ob] ++ [Ob.cell none, .cell none, .cell none]) := ⟨rfl, ⟨_, rfl⟩, ⟨_, rfl⟩, ⟨_, rfl⟩, by simp⟩
  generalize ([ob] ++ [Ob.cell none, .cell none, .cell none]) = S0 at lc0 ⊢
  iterate 4 fail
  with_reducible refine p_itOf (itr (n := 4) (by omega)) ?_
  refine for_run (fun r fr s => ∃ a1 a2 a3 a4 a5, (∀ d ∈ r, ∃ g : Nat, d = .int (g : Int) ∧ g ≤ 100) ∧ fr = ⟨[some (.loc 0), a1, a2, a3, a4, a5, none, none], [(4, 1), (5, 2), (6, 3)]⟩ ∧ LC ob s) (fun _ _ _ _ => rfl) ?_ ?_ _ _ _ ⟨none, none, none, none, none, fun d hd => ?_, rfl, lc0⟩
  · rintro d r fr s ⟨a1, a2, a3, a4, a5, hr, rfl, lc⟩
    obtain ⟨g, rfl, hg⟩ := hr d List.mem_cons_self
    have hq' : s[0]? = some (.lst (is.map D.int)) ∨ s[0]? = some (.fro (is.map D.int)) := by
      rcases hob with rfl | rfl
      · exact .inl lc.1
      · exact .inr lc.1
    refine runS_ex.mpr ?_
    repeat fail
    refine (s_pool 19 g hq' hg).to fun d s1 h => ?_
    obtain ⟨j, rfl, j1, hjl, f1⟩ := h
    have hj4 : 4 ≤ j := Nat.le_trans lc.2.2.2.2 hjl
    have lc1 := lc.fx0 f1
    repeat fail
    have hlj := jar_lt j1
    refine (s_one (E := fun _ _ => False) 18 (j1.fx (Fx.app (S := []) s1 _) (by simp)) app_at (by omega) (by simp) (by simp)).to fun d s2 h => ?_
    obtain ⟨hd, j2, f2⟩ := h
    have hqn : ∃ q : Nat, d = .int (q : Int) ∧ q ≤ 40 := by
      simp only [List.mem_cons, List.not_mem_nil, or_false] at hd
      rcases hd with rfl | rfl | rfl | rfl | rfl | rfl | rfl
      · exact ⟨0, rfl, by omega⟩
      · exact ⟨1, rfl, by omega⟩
      · exact ⟨2, rfl, by omega⟩
      · exact ⟨2, rfl, by omega⟩
      · exact ⟨3, rfl, by omega⟩
      · exact ⟨8, rfl, by omega⟩
      · exact ⟨40, rfl, by omega⟩
    obtain ⟨q, rfl, hq40⟩ := hqn
    have lc2 := lc1.fx ((Fx.app _ _).trans f2) hj4
    repeat fail
    refine (s_right 11 q j2 hq40).to fun d s3 h => ?_
    obtain ⟨rfl, j3, f3⟩ := h
    have lc3 := lc2.fx f3 hj4
    repeat fail
    refine (s_take (E := fun _ _ => False) 19 (t := 4) j3 (by omega) (by omega)).to fun d s4 h => ?_
    obtain ⟨r4, rfl, hr4, j4, f4⟩ := h
    have lc4 := lc3.fx f4 hj4
    repeat fail
    refine (s_right 11 r4 j4 (by omega)).to fun d s5 h => ?_
    obtain ⟨rfl, j5, f5⟩ := h
    have lc5 := lc4.fx f5 hj4
    repeat fail
    refine (s_refused 11 q j5 hq40).to fun d s6 h => ?_
    obtain ⟨rfl, j6, f6⟩ := h
    have lc6 := lc5.fx f6 hj4
    repeat fail
    have hlj6 := jar_lt j6
    refine (s_one (E := fun _ _ => False) 18 (j6.fx (Fx.app (S := []) s6 [Ob.lst (shortL.map .str)]) (by simp)) app_at (by omega) (by decide +kernel) (by decide +kernel)).to fun d s7 h => ?_
    obtain ⟨hs, j7, f7⟩ := h
    obtain ⟨sh, hsh, rfl⟩ := List.mem_map.mp hs
    have hsh := short_ok sh hsh
    have lc7 := (lc6.fx ((Fx.app _ _).trans f7) hj4).set 1 (.inl rfl) (some (.str sh))
    have j8 : J (s7.set 1 (.cell (some (.str sh)))) j := j7.fx (Fx.set (S := [1]) (by simp)) (by rw [List.mem_singleton]; omega)
    repeat fail
    generalize (s7.set 1 (.cell (some (.str sh)))) = S8 at lc7 j8 ⊢
    refine (run_eq (s_foreign 19)).mpr ?_
    repeat fail
    have lc9 := lc7.fx0 (Fx.app (S := []) S8 [Ob.lst (foreignL.map .str)])
    refine (s_mixed 18 (j8.fx (Fx.app (S := []) S8 [Ob.lst (foreignL.map .str)]) (by simp)) app_at (by decide +kernel)).to fun d s9 h => ?_
    obtain ⟨l, fs, rfl, hl9, _, hm, hlen, j9, f9⟩ := h
    have lc10 := lc9.fx f9 hj4
    repeat fail
    refine p_sl_loc rfl rfl hl9 ?_
    repeat fail
    have lc11 := lc10.fx0 (Fx.app (S := []) s9 [Ob.lst (cutL fs none (some 7))])
    have hz9 : (s9 ++ [Ob.lst (cutL fs none (some 7))])[s9.length]? = some (.lst (cutL fs none (some 7))) := app_at
    have hzl : 4 ≤ s9.length := lc10.2.2.2.2
    have hsg : ∀ x ∈ cutL fs none (some 7), ∃ w, x = .str w ∧ cOk w ∧ w.length ≤ 1 := fun x hx => by
      obtain ⟨w, hw, rfl⟩ := List.mem_map.mp (hm x (mem_cut hx))
      exact ⟨w, rfl, foreign_ok w hw⟩
    refine p_itOf (src_loc hz9) ?_
    generalize (s9 ++ [Ob.lst (cutL fs none (some 7))]) = S12 at lc11 hz9 ⊢
    generalize s9.length = lz at hz9 hzl ⊢
    generalize cutL fs none (some 7) = zs at hz9 hsg ⊢
    refine for_run (fun r fr s => ∃ b5, (∀ d ∈ r, d ∈ zs) ∧ fr = ⟨[some (.loc 0), some (.int (g : Int)), some (.loc j), some (.int (q : Int)), some (.str sh), b5, none, none], [(4, 1), (5, 2), (6, 3)]⟩ ∧ LC ob s ∧ s[lz]? = some (.lst zs)) (fun r fr s h => by obtain ⟨b5, h1, h2, h3, h4⟩ := h; exact chk_at (.inl h4)) ?_ ?_ _ _ _ ⟨a5, fun d h => h, rfl, lc11, hz9⟩
    · rintro d r' fr s ⟨b5, hr', rfl, lc, hz⟩
      obtain ⟨w, rfl, hw1, hw2⟩ := hsg d (hr' d List.mem_cons_self)
      have lcb := lc.set 2 (.inr (.inl rfl)) (some (.str w))
      have hzb : (s.set 2 (.cell (some (.str w))))[lz]? = some (.lst zs) := by
        rw [List.getElem?_set_ne (by omega)]
        exact hz
      refine runS_ex.mpr ?_
      repeat fail
      generalize (s.set 2 (.cell (some (.str w)))) = Sb at lcb hzb ⊢
      have hsl := hsh.2
      refine p_biop (len_str (by omega)) ?_
      repeat fail
      have hi := itr (n := sh.length + 1) (y := .bl true) (st := Sb) (by omega)
      have ehi : ((sh.length + 1 : Nat) : Int) = (sh.length : Int) + 1 := by omega
      rw [ehi] at hi
      with_reducible refine p_itOf hi ?_
      refine ⟨by show (List.map _ _).length ≤ _; simp; omega, ?_⟩
      refine (lc_run (E := fun _ _ => False) (fun r' a s2 => a = [] ∧ (∀ d ∈ r', ∃ u : Nat, d = .int (u : Int)) ∧ Fx [] Sb s2) (fun r' a s2 h => rfl) ?_ _ [] _ ⟨rfl, fun d hd => ?_, Fx.refl _⟩).to fun res s2 kk => ?_
      · rintro d r' a s2 ⟨rfl, hr', fs⟩
        obtain ⟨u, rfl⟩ := hr' d List.mem_cons_self
        refine lcT_run.mpr ?_
        have k1 := tok_cut (lo := none) (hi := some (u : Int)) hsh
        have k2 := tok_cut (lo := some (u : Int)) (hi := none) hsh
        have kw : TOk 1 w := ⟨hw1, hw2⟩
        have k3 := tok_app k1 kw
        repeat fail
        refine p_sl_str rfl rfl (by omega) ?_
        repeat fail
        refine p_app_w 5000 (by have := k1.2; omega) (by omega) (by omega) ?_
        repeat fail
        refine p_sl_str rfl rfl (by omega) ?_
        repeat fail
        refine p_app_w 5000 (by have := k3.2; omega) (by have := k2.2; omega) (by omega) ?_
        repeat fail
        have k4 := tok_app k3 k2
        refine (s_readright 12 2 (by omega) (by have := k4.2; omega) k4.1).to fun d s3 h => ?_
        obtain ⟨rfl, f3⟩ := h
        repeat fail
        exact ⟨rfl, fun d hd => hr' d (List.mem_cons_of_mem _ hd), fs.trans f3⟩
      · obtain ⟨u, hu, rfl⟩ := List.mem_map.mp hd
        exact ⟨u, rfl⟩
      obtain ⟨e, _, fs⟩ := kk
      rw [List.nil_append] at e
      subst e
      have fz := (fs.apps [Ob.lst []]).apps [Ob.lst []]
      repeat fail
      refine p_cmpop (r_nen (.inl app2_0) app2_1 (fun d hd => by cases hd)) ?_
      repeat fail
      exact ⟨_, fun d hd => hr' d (List.mem_cons_of_mem _ hd), rfl, lcb.fx0 fz, fz.get hzb (by simp)⟩
    · rintro fr s ⟨b5, _, rfl, lc, hz⟩
      exact ⟨_, _, _, _, _, fun d hd => hr d (List.mem_cons_of_mem _ hd), rfl, lc⟩
  · rintro fr s ⟨a1, a2, a3, a4, a5, _, rfl, lc⟩
    have he := far_end 10 hv.symm lc (a1 := a1) (a2 := a2) (a3 := a3) (a4 := a4) (a5 := a5)
    refine k_nx ?_
    refine he.imp (fun o _ h => ?_)
    cases o <;> exact h
  · obtain ⟨g, hg, rfl⟩ := List.mem_map.mp hd
    exact ⟨g, rfl, by have := List.mem_range'_1.mp hg; omega⟩
end MI.P

theorem PySem.Challenge.cw_asoneoffice_k82_keys_as_texts_sign_by_si_holds : PySem.Challenge.rw_asoneoffice_k82_keys_as_texts_sign_by_si.Holds := by
  exact K82.holds_of MI.P.law_plain
