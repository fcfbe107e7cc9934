import PyProof.Rows.All
import Wide.All
import OpenK.AllK
import Wide.FinOn
import HandS.ForMost
import HandS.ForExc
import KE.SortData
import KE.DataEq
import KE.LtData
import HandS.TupAny
import HandS.TupMul
import HandS.Style
import HandS.Flow
import HandS.IsInst
import HandS.Conv
import HandS.Zip
import HandS.Walk
import HandS.SetFor
import HandS.Strs
import HandS.AnyAll
import HandS.Iter
import HandS.Comp
import HandS.ExcOwn
import HandS.TryMany
import HandS.ExcIs
import KE.KRevSl
import HandS.HeadHook2
import HandS.Head0
import HandS.Head1
import HandS.Head2
import HandS.HeadEnd
import HandS.HeadHook1
import HandS.HeadHook3
import HandS.HeadHook4
import PyProof.ExcBaseAll.ValueError
import PySem.Challenge.RW_sendershade_k32_sets_of_friends_lots_and
set_option Elab.async false
set_option linter.all false
set_option maxRecDepth 100000
set_option maxHeartbeats 0
/-! Gn, part A: the core language, its evaluator over plain data. -/
namespace Gn
open PySem

abbrev PD := PyData
/-- the most items of a list, a tuple, a text -/
abbrev SL : Nat := 16777216

/-- what a slot holds: data that nothing changes any more; a list that this slot alone holds (br: lent by the caller); a dict likewise -/
inductive Vl where
  | val (d : PD)
  | own (xs : List PD) (br : Bool)
  | dic (kvs : List (PD × PD)) (br : Bool)
  /-- the caller's list, locked: it may be cut, no more -/
  | lok (xs : List PD)

abbrev Env := List (Option Vl)
/-- an expression's answer: a value of its own, or what slot i holds -/
inductive Rv where
  | v (x : Vl)
  | al (i : Nat)
/-- an exception: its class, what it was made with -/
structure Exn where
  cls : Nat
  arg : Option PD
inductive Out (α : Type) where
  | ok (a : α) (ρ : Env)
  | ex (c : Exn) (ρ : Env)
  | bad
def M (α : Type) := Env → Out α
def M.ret {α : Type} (a : α) : M α := fun ρ => .ok a ρ
def M.bind {α β : Type} (m : M α) (f : α → M β) : M β := fun ρ => match m ρ with
  | .ok a ρ' => f a ρ'
  | .ex c ρ' => .ex c ρ'
  | .bad => .bad
def M.bad {α : Type} : M α := fun _ => .bad
def M.ofO {α : Type} : Option α → M α
  | some a => fun ρ => .ok a ρ
  | none => fun _ => .bad

/-- a call's answer: the value, what the lent slots hold behind it -/
inductive FRes where
  | ok (x : Vl) (outs : List (Option Vl))
  | ex (c : Exn)
  | bad
abbrev Fns := Nat → List Vl → FRes

inductive BOp where | add | sub | mul | fdiv | mod | pow deriving DecidableEq
inductive COp where | eq | ne | lt | le | gt | ge | isN | notN | isin | notin deriving DecidableEq
inductive Ty where | int | bool | str | list | tuple deriving DecidableEq
inductive Bi where | abs | all | any | bool | int | len | list | tuple | max1 | max2 | min1 | min2 | sorted | sortedSet | lenSet | sum deriving DecidableEq

/-- a target -/
inductive Tg where
  | name (i : Nat)
  | nil
  | cons (t : Tg) (ts : Tg)
  deriving DecidableEq

inductive Kc where | none | bool (b : Bool) | int (i : Int) | str (s : Str) | tup (ks : List Int) deriving DecidableEq
def Kc.d : Kc → PD
  | .none => .none
  | .bool b => .bool b
  | .int i => .int i
  | .str s => .str s
  | .tup ks => .tuple (ks.map .int)

mutual
inductive CE where
  | var (i : Nat)
  | con (k : Kc)
  | tup (es : CEs)
  | lst (es : CEs)
  | bin (o : BOp) (a b : CE)
  | neg (a : CE)
  | not (a : CE)
  | and (a b : CE)
  | or (a b : CE)
  | ite (c : CT) (a b : CE)
  | cmp (o : COp) (a b : CE)
  | cmp2 (o1 o2 : COp) (a b c : CE)
  | sub (a b : CE)
  | slc (a : CE) (lo hi : CEo)
  | rev (a : CE)
  | call (f : Nat) (rs : List Bool) (es : CEs)
  | bi (b : Bi) (es : CEs)
  | isi (a : CE) (ts : List Ty)
  | lstI (it : CI)
  | tupI (it : CI)
  | comp (elt : CE) (own : List Nat) (tg : Tg) (it : CI) (c : CT)
  | app (i : Nat) (e : CE)
  | ext (i : Nat) (e : CE)
  | pop (i : Nat) (e : CEo)
  | thaw (is : List Nat) (e : CE)
inductive CEs where
  | nil
  | cons (e : CE) (es : CEs)
inductive CEo where
  | none
  | some (e : CE)
inductive CT where
  | yes
  | val (e : CE)
  | not (t : CT)
  | and (a b : CT)
  | or (a b : CT)
  | ite (c a b : CT)
inductive CI where
  | seq (e : CE)
  | rng1 (e : CE)
  | rng2 (a b : CE)
  | enum (e : CE)
  | zip (a b : CE)
end

/-- the slots that are lent by a call -/
def lentE : CEs → List Bool → List Nat
  | .cons (.var i) es, true :: rs => i :: lentE es rs
  | .cons _ es, _ :: rs => lentE es rs
  | _, _ => []
mutual
/-- the slots whose lists an expression may change -/
def mutE : CE → List Nat
  | .var _ => []
  | .con _ => []
  | .tup es => mutEs es
  | .lst es => mutEs es
  | .bin _ a b => mutE a ++ mutE b
  | .neg a => mutE a
  | .not a => mutE a
  | .and a b => mutE a ++ mutE b
  | .or a b => mutE a ++ mutE b
  | .ite c a b => mutT c ++ (mutE a ++ mutE b)
  | .cmp _ a b => mutE a ++ mutE b
  | .cmp2 _ _ a b c => mutE a ++ (mutE b ++ mutE c)
  | .sub a b => mutE a ++ mutE b
  | .slc a lo hi => mutE a ++ (mutO lo ++ mutO hi)
  | .rev a => mutE a
  | .call _ rs es => lentE es rs ++ mutEs es
  | .bi _ es => mutEs es
  | .isi a _ => mutE a
  | .lstI it => mutI it
  | .tupI it => mutI it
  | .comp elt _ _ it c => mutI it ++ (mutT c ++ mutE elt)
  | .app i e => i :: mutE e
  | .ext i e => i :: mutE e
  | .pop i e => i :: mutO e
  | .thaw _ e => mutE e
def mutEs : CEs → List Nat
  | .nil => []
  | .cons e es => mutE e ++ mutEs es
def mutO : CEo → List Nat
  | .none => []
  | .some e => mutE e
def mutT : CT → List Nat
  | .yes => []
  | .val e => mutE e
  | .not t => mutT t
  | .and a b => mutT a ++ mutT b
  | .or a b => mutT a ++ mutT b
  | .ite c a b => mutT c ++ (mutT a ++ mutT b)
def mutI : CI → List Nat
  | .seq e => mutE e
  | .rng1 e => mutE e
  | .rng2 a b => mutE a ++ mutE b
  | .enum e => mutE e
  | .zip a b => mutE a ++ mutE b
end

/-- what an except suite hands back -/
inductive Hr where
  | none
  | lst (ks : List Kc)

mutual
inductive CS where
  | asg (t : Tg) (e : CE)
  | par (ts : List Tg) (es : CEs)
  | setIx (i : Nat) (ix e : CE)
  | aug (i : Nat) (e : CE)
  | expr (e : CE)
  | ret (e : CE)
  | retN
  | ife (c : CT) (a b : CSs)
  | whl (c : CT) (b : CSs)
  | for (t : Tg) (it : CI) (b : CSs)
  | rais (c : Nat)
  | try (b : CSs) (hs : List (Nat × Hr))
  | pass
  | brk
  | cont
inductive CSs where
  | nil
  | cons (s : CS) (ss : CSs)
end

/-! ### operations on data -/
/-- whether == may be asked (its depth is within the stack) -/
def eqC (d e : PD) : Option Bool := if decide (d.depth ≤ 60) || decide (e.depth ≤ 60) then some (d.eqv e) else none
mutual
/-- < -/
def ltC : PD → PD → Option Bool
  | .int i, .int j => some (decide (i < j))
  | .tuple xs, .tuple ys => ltL xs ys
  | .list xs, .list ys => ltL xs ys
  | _, _ => none
/-- the first place where they are unlike decides; all such places can be compared -/
def ltL : List PD → List PD → Option Bool
  | [], [] => some false
  | [], _ :: _ => some true
  | _ :: _, [] => some false
  | x :: xs, y :: ys => match ltL xs ys with
    | some r => if x.eqv y then some r else ltC x y
    | none => none
end
def seqOf : PD → Option (List PD)
  | .list xs => some xs
  | .tuple xs => some xs
  | _ => none
def isinC (x c : PD) : Option Bool := match seqOf c with
  | some ds => if decide (x.depth ≤ 60) then some (ds.any fun z => z.eqv x) else none
  | none => none
def isNo : PD → Bool
  | .none => true
  | _ => false
def cmpD : COp → PD → PD → Option Bool
  | .eq, a, b => eqC a b
  | .ne, a, b => (eqC a b).map not
  | .lt, a, b => if decide (a.depth ≤ 60) || decide (b.depth ≤ 60) then ltC a b else none
  | .le, .int i, .int j => some (decide (i ≤ j))
  | .gt, .int i, .int j => some (decide (j < i))
  | .ge, .int i, .int j => some (decide (j ≤ i))
  | .isN, a, .none => some (isNo a)
  | .notN, a, .none => some (!isNo a)
  | .isin, a, b => isinC a b
  | .notin, a, b => (isinC a b).map not
  | _, _, _ => none
def mulOk (i j : Int) : Bool := (decide (-(2 ^ 64) < i) && decide (i < 2 ^ 64)) || (decide (-(2 ^ 64) < j) && decide (j < 2 ^ 64))
def binD : BOp → PD → PD → Option Vl
  | .add, .int i, .int j => some (.val (.int (i + j)))
  | .add, .tuple xs, .tuple ys => if xs.length + ys.length ≤ SL then some (.val (.tuple (xs ++ ys))) else none
  | .add, .list xs, .list ys => if xs.length + ys.length ≤ SL then some (.own (xs ++ ys) false) else none
  | .sub, .int i, .int j => some (.val (.int (i - j)))
  | .mul, .int i, .int j => if mulOk i j then some (.val (.int (i * j))) else none
  | .mul, .list xs, .int k => if decide (-(2 ^ 63) ≤ k) && decide (k < 2 ^ 63) && decide (xs.length * k.toNat ≤ SL) then some (.own (List.replicate k.toNat xs).flatten false) else none
  | .mul, .tuple xs, .int k => if !xs.isEmpty && decide (2 ≤ k) && decide (k ≤ 1000) && decide (xs.length ≤ 1000) then some (.val (.tuple (List.replicate k.toNat xs).flatten)) else none
  | .fdiv, .int i, .int j => if decide (j ≠ 0) && decide (j.natAbs < 1073741824) then some (.val (.int (i.fdiv j))) else none
  | .mod, .int i, .int j => if decide (j ≠ 0) then some (.val (.int (i.fmod j))) else none
  | .pow, .int i, .int j => if decide (0 ≤ j) && decide (j ≤ 1000000) && decide (i.natAbs < 2 ^ 64) then some (.val (.int (i ^ j.toNat))) else none
  | _, _, _ => none
def truD : PD → Option Bool
  | .none => some false
  | .bool b => some b
  | .int i => some (i != 0)
  | .str s => if s.length ≤ SL then some ((s.length : Int) != 0) else none
  | .list xs => some (!xs.isEmpty)
  | .tuple xs => some (!xs.isEmpty)
  | .dict _ => none
def subD : PD → PD → Option PD
  | .list xs, .int i => L2.atI xs i
  | .tuple xs, .int i => L2.atI xs i
  | _, _ => none
def intD : PD → Option Int
  | .int i => some i
  | _ => none
def cutD (xs : List PD) (lo hi : Option Int) : List PD := (xs.drop (HT.sIx xs.length 0 lo)).take (HT.sIx xs.length xs.length hi - HT.sIx xs.length 0 lo)
def slcD (a : PD) (lo hi : Option Int) : Option Vl := match a with
  | .list xs => some (.own (cutD xs lo hi) false)
  | .tuple xs => some (.val (.tuple (cutD xs lo hi)))
  | _ => none
def negD : PD → Option Vl
  | .int i => some (.val (.int (-i)))
  | _ => none
def revD : PD → Option Vl
  | .list xs => some (.own xs.reverse false)
  | .tuple xs => some (.val (.tuple xs.reverse))
  | _ => none
def tyD : PD → Ty → Bool
  | .int _, .int => true
  | .bool _, .int => true
  | .bool _, .bool => true
  | .str _, .str => true
  | .list _, .list => true
  | .tuple _, .tuple => true
  | _, _ => false
def intsD : List PD → Option (List Int)
  | [] => some []
  | .int i :: r => (intsD r).map (i :: ·)
  | _ => none
def boolsD : List PD → Option (List Bool)
  | [] => some []
  | .bool i :: r => (boolsD r).map (i :: ·)
  | _ => none
/-- any two of them can be compared -/
def cmpAll (xs : List PD) : Bool := xs.all fun x => decide (x.depth ≤ 60) && !(isNo x) && xs.all fun y => PySem.W.alike x y
def sortL (xs : List PD) : List PD := xs.mergeSort (PySem.W.dataLe false id)
/-- the same, place by place -/
def insD (x : PD) : List PD → List PD
  | [] => [x]
  | y :: ys => if PySem.W.dataLe false id x y then x :: y :: ys else y :: insD x ys
def isort : List PD → List PD
  | [] => []
  | x :: xs => insD x (isort xs)
def sortD (xs : List PD) : Option (List PD) := if cmpAll xs then some (isort xs) else none
/-- the ints, each once, in order -/
def insI (x : Int) : List Int → List Int
  | [] => [x]
  | y :: r => if x < y then x :: y :: r else if x = y then y :: r else y :: insI x r
def setI (xs : List Int) : List Int := xs.foldr insI []
def setD (xs : List PD) : Option (List PD) := match intsD xs with
  | some is => if decide (is.length < 60) then some ((setI is).map .int) else none
  | none => none
def biD : Bi → List PD → Option Vl
  | .abs, [.int i] => some (.val (.int (if i < 0 then -i else i)))
  | .all, [.list xs] => (boolsD xs).map fun bs => .val (.bool (bs.all id))
  | .any, [.list xs] => (boolsD xs).map fun bs => .val (.bool (bs.any id))
  | .int, [.int i] => some (.val (.int i))
  | .int, [.bool b] => some (.val (.int (if b then 1 else 0)))
  | .len, [.list xs] => some (.val (.int xs.length))
  | .len, [.tuple xs] => some (.val (.int xs.length))
  | .list, [.list xs] => some (.own xs false)
  | .list, [.tuple xs] => some (.own xs false)
  | .tuple, [.list xs] => some (.val (.tuple xs))
  | .tuple, [.tuple xs] => some (.val (.tuple xs))
  | .sorted, [.list xs] => (sortD xs).map fun ys => .own ys false
  | .max2, [.int i, .int j] => some (.val (.int (if j > i then j else i)))
  | .min2, [.int i, .int j] => some (.val (.int (if j < i then j else i)))
  | .sortedSet, [.tuple xs] => (setD xs).map fun ys => .own ys false
  | _, _ => none

/-! ### slots -/
def getS (ρ : Env) (i : Nat) : Option Vl := (ρ[i]?).join
/-- the datum that a value is read as -/
def Vl.d : Vl → Option PD
  | .val d => some d
  | .own xs _ => some (.list xs)
  | .dic _ _ => none
  | .lok _ => none
/-- .. where it is to be cut -/
def Vl.cut : Vl → Option PD
  | .val d => some d
  | .own xs _ => some (.list xs)
  | .dic _ _ => none
  | .lok xs => some (.list xs)
def peekC (r : Rv) : M PD := fun ρ => match r with
  | .v x => match x.d with
    | some d => .ok d ρ
    | none => .bad
  | .al i => match getS ρ i with
    | some x => match x.cut with
      | some d => .ok d ρ
      | none => .bad
    | none => .bad
def peekR (r : Rv) : M PD := fun ρ => match r with
  | .v x => match x.d with
    | some d => .ok d ρ
    | none => .bad
  | .al i => match getS ρ i with
    | some x => match x.d with
      | some d => .ok d ρ
      | none => .bad
    | none => .bad
def peekAll : List Rv → M (List PD)
  | [] => M.ret []
  | x :: xs => (peekR x).bind fun d => (peekAll xs).bind fun ds => M.ret (d :: ds)
/-- the value, from now on unchanged -/
def freeze (r : Rv) : M PD := fun ρ => match r with
  | .v x => match x.d with
    | some d => .ok d ρ
    | none => .bad
  | .al i => match getS ρ i with
    | some (.val d) => .ok d ρ
    | some (.own xs _) => .ok (.list xs) (ρ.set i (some (.val (.list xs))))
    | _ => .bad
/-- what is no other slot's -/
def settle (r : Rv) : M Rv := match r with
  | .v x => M.ret (.v x)
  | .al i => (freeze (.al i)).bind fun d => M.ret (.v (.val d))
def readV (i : Nat) : M Rv := fun ρ => match getS ρ i with
  | some (.val d) => .ok (.v (.val d)) ρ
  | some _ => .ok (.al i) ρ
  | none => .bad
/-- whether slot i may be given another value -/
def free (ρ : Env) (i : Nat) : Bool := match getS ρ i with
  | some (.own _ true) => false
  | some (.dic _ true) => false
  | some (.lok _) => false
  | _ => decide (i < ρ.length)
def putV (i : Nat) (x : Vl) : M Unit := fun ρ => if free ρ i then .ok () (ρ.set i (some x)) else .bad
mutual
def asgD : Tg → PD → M Unit
  | .name i, d => putV i (.val d)
  | .nil, .tuple [] => M.ret ()
  | .cons t ts, .tuple (d :: ds) => (asgD t d).bind fun _ => asgL ts ds
  | _, _ => M.bad
def asgL : Tg → List PD → M Unit
  | .nil, [] => M.ret ()
  | .cons t ts, d :: ds => (asgD t d).bind fun _ => asgL ts ds
  | _, _ => M.bad
end
/-- a comprehension's names: nothing but data may stand there -/
def wipeE (ρ : Env) : List Nat → Option Env
  | [] => some ρ
  | i :: is => match wipeE ρ is with
    | some ρ' => match getS ρ i with
      | some (.val _) => some (ρ'.set i none)
      | none => some (ρ'.set i none)
      | _ => none
    | none => none
/-- the slots of `is` as they stood in ρ₀ -/
def backE (ρ₀ ρ : Env) : List Nat → Env
  | [] => ρ
  | i :: is => (backE ρ₀ ρ is).set i (getS ρ₀ i)

/-- the argument as it is handed: data, or the slot that is lent -/
inductive AR where
  | val (d : PD)
  | ref (i : Nat)
def lendV (i : Nat) : M AR := fun ρ => match getS ρ i with
  | some (.val d) => .ok (.val d) ρ
  | some _ => .ok (.ref i) ρ
  | none => .bad
def arV (ρ : Env) : AR → Option Vl
  | .val d => some (.val d)
  | .ref i => match getS ρ i with
    | some (.own xs _) => some (.own xs true)
    | some (.dic kvs _) => some (.dic kvs true)
    | some (.lok xs) => some (.lok xs)
    | _ => none
def lentOf : List AR → List Nat
  | [] => []
  | .val _ :: r => lentOf r
  | .ref i :: r => i :: lentOf r
/-- what was lent comes back: br as it was -/
def backS (old o : Option Vl) : Option Vl := match old with
  | some (.own _ b) => match o with
    | some (.own ys true) => some (.own ys b)
    | _ => none
  | some (.dic _ _) => none
  | x => x
def backA (ρ : Env) : List AR → List (Option Vl) → Env
  | [], _ => ρ
  | .val _ :: r, os => backA ρ r os.tail
  | .ref i :: r, os => (backA ρ r os.tail).set i (backS (getS ρ i) (os.headD none))
def callM (φ : Fns) (f : Nat) (as : List AR) : M Rv := fun ρ => match as.mapM (arV ρ) with
  | some vs => if (lentOf as).Nodup then match φ f vs with
      | .ok x outs => .ok (.v x) (backA ρ as outs)
      | .ex c => .ex c (backA ρ as [])
      | .bad => .bad
    else .bad
  | none => .bad

def scal : PD → Bool
  | .none => true
  | .bool _ => true
  | .int _ => true
  | .str _ => true
  | _ => false
/-- a list that was lent to nobody for good is its slot's again -/
def thawE (ρ₀ ρ : Env) : List Nat → Env
  | [] => ρ
  | i :: is => match getS ρ₀ i with
    | some (.own xs b) => (thawE ρ₀ ρ is).set i (some (.own xs b))
    | _ => thawE ρ₀ ρ is
def thawM (is : List Nat) (m : M Rv) : M Rv := fun ρ => match m ρ with
  | .ok (.v (.val d)) ρ' => if scal d then .ok (.v (.val d)) (thawE ρ ρ' is) else .bad
  | .ok _ _ => .bad
  | .ex c ρ' => .ex c ρ'
  | .bad => .bad

/-! ### lists that a slot holds -/
def chkOwn (i : Nat) : M Unit := fun ρ => match getS ρ i with
  | some (.own _ _) => .ok () ρ
  | _ => .bad
def appM (i : Nat) (d : PD) : M Rv := fun ρ => match getS ρ i with
  | some (.own xs b) => if xs.length < SL then .ok (.v (.val .none)) (ρ.set i (some (.own (xs ++ [d]) b))) else .bad
  | _ => .bad
def extM (i : Nat) (d : PD) : M Rv := fun ρ => match getS ρ i, d with
  | some (.own xs b), .list ys => if xs.length + ys.length ≤ SL then .ok (.v (.val .none)) (ρ.set i (some (.own (xs ++ ys) b))) else .bad
  | _, _ => .bad
def popM (i : Nat) (k : Option Int) : M Rv := fun ρ => match getS ρ i with
  | some (.own xs b) => match L2.ixN xs.length (k.getD (-1)) with
    | some j => match xs[j]? with
      | some d => if xs.length ≤ SL then .ok (.v (.val d)) (ρ.set i (some (.own (xs.eraseIdx j) b))) else .bad
      | none => .bad
    | none => .bad
  | _ => .bad
def setM (i : Nat) (k d : PD) : M Unit := fun ρ => match getS ρ i, k with
  | some (.own xs b), .int k => match L2.ixN xs.length k with
    | some j => .ok () (ρ.set i (some (.own (xs.set j d) b)))
    | none => .bad
  | _, _ => .bad
def compL (own : List Nat) (tg : Tg) (c : M Bool) (el : M Rv) : List PD → M (List PD)
  | [] => M.ret []
  | d :: ds => fun ρ => match wipeE ρ own with
    | none => .bad
    | some ρ => ((asgD tg d).bind fun _ => c.bind fun k => if k then el.bind fun x => (freeze x).bind fun y => (compL own tg c el ds).bind fun ys => M.ret (y :: ys) else compL own tg c el ds) ρ
def compM (own : List Nat) (tg : Tg) (c : M Bool) (el : M Rv) (ds : List PD) : M Rv := fun ρ => match compL own tg c el ds ρ with
  | .ok ys ρ' => .ok (.v (.own ys false)) (backE ρ ρ' own)
  | .ex _ _ => .bad
  | .bad => .bad

/-! ### the evaluator -/
def enumD (xs : List PD) (k : Nat) : List PD := match xs with
  | [] => []
  | x :: r => .tuple [.int k, x] :: enumD r (k + 1)
def enumP : PD → Option (List PD)
  | .list xs => some (enumD xs 0)
  | _ => none
def zipD (xs ys : List PD) : List PD := List.zipWith (fun x y => .tuple [x, y]) xs ys
def zipP : PD → PD → Option (List PD)
  | .list xs, .list ys => some (zipD xs ys)
  | .tuple xs, .tuple ys => some (zipD xs ys)
  | _, _ => none
def rngD (lo : Int) : Nat → List PD
  | 0 => []
  | n + 1 => .int lo :: rngD (lo + 1) n
def rngOk (i j : Int) : Bool := decide (-(2 ^ 62) ≤ i) && decide (i < 2 ^ 62) && decide (-(2 ^ 62) ≤ j) && decide (j < 2 ^ 62) && decide ((j - i).toNat ≤ SL)

def rg1 (f : M Rv) : M (List PD) := f.bind fun x => (peekR x).bind fun d => match d with
    | .int j => if rngOk 0 j then M.ret (rngD 0 j.toNat) else M.bad
    | _ => M.bad
def rg2 (f g : M Rv) : M (List PD) := f.bind fun x => g.bind fun y => (peekR x).bind fun d => (peekR y).bind fun e => match d, e with
    | .int i, .int j => if rngOk i j then M.ret (rngD i (j - i).toNat) else M.bad
    | _, _ => M.bad
mutual
def ev (φ : Fns) : CE → M Rv
  | .var i => readV i
  | .con k => M.ret (.v (.val k.d))
  | .tup es => (evs φ es).bind fun ds => M.ret (.v (.val (.tuple ds)))
  | .lst es => (evs φ es).bind fun ds => M.ret (.v (.own ds false))
  | .bin o a b => (ev φ a).bind fun x => (ev φ b).bind fun y => (peekR x).bind fun d => (peekR y).bind fun e => (M.ofO (binD o d e)).bind fun z => M.ret (.v z)
  | .neg a => (ev φ a).bind fun x => (peekR x).bind fun d => (M.ofO (negD d)).bind fun z => M.ret (.v z)
  | .not a => (ev φ a).bind fun x => (peekR x).bind fun d => (M.ofO (truD d)).bind fun k => M.ret (.v (.val (.bool (!k))))
  | .and a b => (ev φ a).bind fun x => (settle x).bind fun x => (peekR x).bind fun d => (M.ofO (truD d)).bind fun k => if k then (ev φ b).bind settle else M.ret x
  | .or a b => (ev φ a).bind fun x => (settle x).bind fun x => (peekR x).bind fun d => (M.ofO (truD d)).bind fun k => if k then M.ret x else (ev φ b).bind settle
  | .ite c a b => (tst φ c).bind fun k => if k then (ev φ a).bind settle else (ev φ b).bind settle
  | .cmp o a b => (ev φ a).bind fun x => (ev φ b).bind fun y => (peekR x).bind fun d => (peekR y).bind fun e => (M.ofO (cmpD o d e)).bind fun z => M.ret (.v (.val (.bool z)))
  | .cmp2 o1 o2 a b c => (ev φ a).bind fun x => (ev φ b).bind fun y => (freeze y).bind fun e => (peekR x).bind fun d => (M.ofO (cmpD o1 d e)).bind fun z =>
      if z then (ev φ c).bind fun w => (peekR w).bind fun f => (M.ofO (cmpD o2 e f)).bind fun z => M.ret (.v (.val (.bool z))) else M.ret (.v (.val (.bool false)))
  | .sub a b => (ev φ a).bind fun x => (ev φ b).bind fun y => (peekR x).bind fun d => (peekR y).bind fun e => (M.ofO (subD d e)).bind fun z => M.ret (.v (.val z))
  | .slc a lo hi => (ev φ a).bind fun x => (evo φ lo).bind fun l => (evo φ hi).bind fun h => (peekC x).bind fun d => (M.ofO (slcD d l h)).bind fun z => M.ret (.v z)
  | .rev a => (ev φ a).bind fun x => (peekR x).bind fun d => (M.ofO (revD d)).bind fun z => M.ret (.v z)
  | .call f rs es => (evas φ es rs).bind fun as => callM φ f as
  | .bi b es => (evps φ es).bind fun xs => (peekAll xs).bind fun ds => (M.ofO (biD b ds)).bind fun z => M.ret (.v z)
  | .isi a ts => (ev φ a).bind fun x => (peekR x).bind fun d => M.ret (.v (.val (.bool (ts.any (tyD d)))))
  | .lstI it => (evi φ it).bind fun ds => M.ret (.v (.own ds false))
  | .tupI it => (evi φ it).bind fun ds => M.ret (.v (.val (.tuple ds)))
  | .comp elt own tg it c => (evi φ it).bind fun ds => compM own tg (tst φ c) (ev φ elt) ds
  | .app i e => (chkOwn i).bind fun _ => (ev φ e).bind fun x => (freeze x).bind fun d => appM i d
  | .ext i e => (chkOwn i).bind fun _ => (ev φ e).bind fun x => (freeze x).bind fun d => extM i d
  | .pop i e => (chkOwn i).bind fun _ => (evo φ e).bind fun k => popM i k
  | .thaw is e => thawM is (ev φ e)
def evs (φ : Fns) : CEs → M (List PD)
  | .nil => M.ret []
  | .cons e es => (ev φ e).bind fun x => (freeze x).bind fun d => (evs φ es).bind fun ds => M.ret (d :: ds)
def evr (φ : Fns) : CEs → M (List Rv)
  | .nil => M.ret []
  | .cons e es => (ev φ e).bind fun x => (settle x).bind fun x => (evr φ es).bind fun ds => M.ret (x :: ds)
def evps (φ : Fns) : CEs → M (List Rv)
  | .nil => M.ret []
  | .cons e es => (ev φ e).bind fun x => (evps φ es).bind fun xs => M.ret (x :: xs)
def evas (φ : Fns) : CEs → List Bool → M (List AR)
  | .nil, _ => M.ret []
  | .cons (.var i) es, true :: rs => (lendV i).bind fun a => (evas φ es rs).bind fun as => M.ret (a :: as)
  | .cons e es, rs => (ev φ e).bind fun x => (freeze x).bind fun d => (evas φ es rs.tail).bind fun as => M.ret (.val d :: as)
def evo (φ : Fns) : CEo → M (Option Int)
  | .none => M.ret none
  | .some e => (ev φ e).bind fun x => (peekR x).bind fun d => (M.ofO (intD d)).bind fun i => M.ret (some i)
def tst (φ : Fns) : CT → M Bool
  | .yes => M.ret true
  | .val e => (ev φ e).bind fun x => (peekR x).bind fun d => M.ofO (truD d)
  | .not t => (tst φ t).bind fun k => M.ret (!k)
  | .and a b => (tst φ a).bind fun k => if k then tst φ b else M.ret false
  | .or a b => (tst φ a).bind fun k => if k then M.ret true else tst φ b
  | .ite c a b => (tst φ c).bind fun k => if k then tst φ a else tst φ b
def evi (φ : Fns) : CI → M (List PD)
  | .seq e => (ev φ e).bind fun x => (freeze x).bind fun d => (M.ofO (seqOf d)).bind fun ds => M.ret ds
  | .rng1 e => rg1 (ev φ e)
  | .rng2 a b => rg2 (ev φ a) (ev φ b)
  | .enum e => (ev φ e).bind fun x => (freeze x).bind fun d => (M.ofO (enumP d)).bind fun ds => M.ret ds
  | .zip a b => (ev φ a).bind fun x => (freeze x).bind fun d => (ev φ b).bind fun y => (freeze y).bind fun e => (M.ofO (zipP d e)).bind fun ds => M.ret ds
end

/-! ### statements -/
inductive Fl where
  | next
  | brk
  | cont
  | ret (x : Vl)
def retM (r : Rv) : M Fl := fun ρ => match r with
  | .v x => .ok (.ret x) ρ
  | .al i => match getS ρ i with
    | some (.val d) => .ok (.ret (.val d)) ρ
    | some (.own xs false) => .ok (.ret (.own xs false)) (ρ.set i none)
    | some (.own xs true) => .ok (.ret (.val (.list xs))) (ρ.set i (some (.val (.list xs))))
    | some (.dic kvs false) => .ok (.ret (.dic kvs false)) ρ
    | _ => .bad
/-- name = value: what another slot holds is from now on unchanged -/
def asgM (t : Tg) (r : Rv) : M Unit := match t, r with
  | .name i, .v x => putV i x
  | t, r => (freeze r).bind fun d => asgD t d
def parM : List Tg → List Rv → M Unit
  | [], [] => M.ret ()
  | t :: ts, r :: rs => (asgM t r).bind fun _ => parM ts rs
  | _, _ => M.bad
def whileM (c : M Bool) (b : M Fl) : Nat → M Fl
  | 0 => M.bad
  | n + 1 => c.bind fun k => if k then b.bind fun f => match f with
      | .next => whileM c b n
      | .cont => whileM c b n
      | .brk => M.ret .next
      | .ret x => M.ret (.ret x)
    else M.ret .next
def forM (t : Tg) (b : M Fl) : List PD → M Fl
  | [] => M.ret .next
  | d :: ds => (asgD t d).bind fun _ => b.bind fun f => match f with
    | .next => forM t b ds
    | .cont => forM t b ds
    | .brk => M.ret .next
    | .ret x => M.ret (.ret x)
def Hr.x : Hr → Vl
  | .none => .val .none
  | .lst ks => .own (ks.map Kc.d) false
/-- slot i's int -/
def intS (i : Nat) : M Int := fun ρ => match getS ρ i with
  | some (.val (.int m)) => .ok m ρ
  | _ => .bad
/-- the most turns of a while -/
abbrev WF : Nat := 100000
def tryM (b : M Fl) (hs : List (Nat × Hr)) : M Fl := fun ρ => match b ρ with
    | .ex c ρ' => match hs.lookup c.cls with
      | some h => .ok (.ret h.x) ρ'
      | none => .ex c ρ'
    | r => r
def seqM (g : M Fl) : Fl → M Fl
  | .next => g
  | f => M.ret f
mutual
def exe (φ : Fns) : CS → M Fl
  | .asg t e => (ev φ e).bind fun r => (asgM t r).bind fun _ => M.ret .next
  | .par ts es => (evr φ es).bind fun rs => (parM ts rs).bind fun _ => M.ret .next
  | .setIx i ix e => (ev φ e).bind fun r => (freeze r).bind fun d => (chkOwn i).bind fun _ => (ev φ ix).bind fun x => (peekR x).bind fun k => (setM i k d).bind fun _ => M.ret .next
  | .aug i e => (intS i).bind fun m => (ev φ e).bind fun x => (peekR x).bind fun d => (M.ofO (intD d)).bind fun n => (putV i (.val (.int (m + n)))).bind fun _ => M.ret .next
  | .expr e => (ev φ e).bind fun _ => M.ret .next
  | .ret e => (ev φ e).bind fun r => retM r
  | .retN => M.ret (.ret (.val .none))
  | .ife c a b => (tst φ c).bind fun k => if k then exes φ a else exes φ b
  | .whl c b => whileM (tst φ c) (exes φ b) WF
  | .for t it b => (evi φ it).bind fun ds => forM t (exes φ b) ds
  | .rais c => fun ρ => .ex ⟨c, none⟩ ρ
  | .try b hs => tryM (exes φ b) hs
  | .pass => M.ret .next
  | .brk => M.ret .brk
  | .cont => M.ret .cont
def exes (φ : Fns) : CSs → M Fl
  | .nil => M.ret .next
  | .cons s ss => (exe φ s).bind (seqM (exes φ ss))
end
/-- a def: its parameters, its names, its body -/
structure FnD where
  np : Nat
  ns : Nat
  body : CSs
def runF (φ : Fns) (fd : FnD) (args : List Vl) : FRes :=
  if args.length = fd.np then match exes φ fd.body (args.map some ++ List.replicate (fd.ns - fd.np) none) with
    | .ok (.ret x) ρ => .ok x (ρ.take fd.np)
    | .ok .next ρ => .ok (.val .none) (ρ.take fd.np)
    | .ok _ _ => .bad
    | .ex c _ => .ex c
    | .bad => .bad
  else .bad
/-- the text's defs, to k calls deep -/
def fnT (T : List FnD) : Nat → Fns
  | 0 => fun _ _ => .bad
  | k + 1 => fun f args => match T[f]? with
    | some fd => runF (fnT T k) fd args
    | none => .bad
/-! ### what is sorted -/
section
open PySem.W PyProof.Rows
mutual
theorem eqv_eq : ∀ x y : PD, alike x y = true → x.eqv y = true → x = y
  | .none, y, h, e => by
    cases y with
    | none => rfl
    | _ => exact absurd h (by simp [alike])
  | .bool a, y, h, e => by
    cases y with
    | bool b => simp only [PyData.eqv, beq_iff_eq] at e; rw [e]
    | _ => exact absurd h (by simp [alike])
  | .int a, y, h, e => by
    cases y with
    | int b => simp only [PyData.eqv, beq_iff_eq] at e; rw [e]
    | _ => exact absurd h (by simp [alike])
  | .str a, y, h, e => by
    cases y with
    | str b => simp only [PyData.eqv, beq_iff_eq] at e; rw [e]
    | _ => exact absurd h (by simp [alike])
  | .list xs, y, h, e => by
    cases y with
    | list ys =>
      simp only [PyData.eqv] at e
      simp only [alike] at h
      rw [eqvAll_eq xs ys h e]
    | _ => exact absurd h (by simp [alike])
  | .tuple xs, y, h, e => by
    cases y with
    | tuple ys =>
      simp only [PyData.eqv] at e
      simp only [alike] at h
      rw [eqvAll_eq xs ys h e]
    | _ => exact absurd h (by simp [alike])
  | .dict _, y, h, e => by cases y <;> exact absurd h (by simp [alike])
theorem eqvAll_eq : ∀ xs ys : List PD, alikeAll xs ys = true → PyData.eqvAll xs ys = true → xs = ys
  | [], [], _, _ => rfl
  | [], _ :: _, _, e => by simp [PyData.eqvAll] at e
  | _ :: _, [], _, e => by simp [PyData.eqvAll] at e
  | x :: xs, y :: ys, h, e => by
    obtain ⟨h1, h2⟩ := alike_all_cons h
    rw [eqv_all_cons] at e
    obtain ⟨e1, e2⟩ : x.eqv y = true ∧ PyData.eqvAll xs ys = true := by simpa using e
    rw [eqv_eq x y h1 e1, eqvAll_eq xs ys h2 e2]
end
abbrev leD : PD → PD → Bool := dataLe false id
theorem leD_tot : TotalLe leD := sortLe_total _ _ _
theorem leD_anti {x y : PD} (h : alike x y = true) (h1 : leD x y = true) (h2 : leD y x = true) : x = y := by
  have a1 : PyProof.Rows.lexLt itemOrd (keyToks y) (keyToks x) = false := by
    have : (!PyProof.Rows.lexLt itemOrd (keyToks y) (keyToks x)) = true := h1
    simpa using this
  have a2 : PyProof.Rows.lexLt itemOrd (keyToks x) (keyToks y) = false := by
    have : (!PyProof.Rows.lexLt itemOrd (keyToks x) (keyToks y)) = true := h2
    simpa using this
  have e : keyToks x = keyToks y := (listOrd itemOrd).total _ _ a2 a1
  cases q : x.eqv y with
  | true => exact eqv_eq x y h q
  | false =>
    have t := (toks_eqv x y h).2 q [] [.inl 0]
    rw [e] at t a2
    rw [lex_pre, a2] at t
    cases t
theorem pw_leD (xs : List PD) : (sortL xs).Pairwise fun a b => leD a b = true := List.pairwise_mergeSort (fun a b c h1 h2 => leD_tot.trans a b c h1 h2) (fun a b => by
  rcases leD_tot.total a b with h | h <;> rw [h] <;> simp) xs
theorem sort_perm' (xs : List PD) : (sortL xs).Perm xs := List.mergeSort_perm xs _
theorem sort_unique {xs ys : List PD} (h : ∀ x ∈ xs, ∀ y ∈ xs, alike x y = true) (p : xs.Perm ys) (hs : ys.Pairwise fun a b => leD a b = true) : sortL xs = ys :=
  List.Perm.eq_of_pairwise (fun a b ha hb h1 h2 => leD_anti (h a ((sort_perm' xs).subset ha) b (p.symm.subset hb)) h1 h2) (pw_leD xs) hs ((sort_perm' xs).trans p)
theorem sort_congr {xs ys : List PD} (h : ∀ x ∈ xs, ∀ y ∈ xs, alike x y = true) (p : xs.Perm ys) : sortL xs = sortL ys := sort_unique h (p.trans (sort_perm' ys).symm) (pw_leD ys)
theorem sort_filter {xs : List PD} (h : ∀ x ∈ xs, ∀ y ∈ xs, alike x y = true) (p : PD → Bool) : sortL (xs.filter p) = (sortL xs).filter p :=
  sort_unique (fun x hx y hy => h x (List.mem_filter.mp hx |>.1) y (List.mem_filter.mp hy |>.1)) ((sort_perm' xs).symm.filter p) ((pw_leD xs).filter p)
theorem sort_id {xs : List PD} (hs : xs.Pairwise fun a b => leD a b = true) : sortL xs = xs := List.mergeSort_of_pairwise hs

theorem insD_perm (x : PD) : ∀ ys : List PD, (insD x ys).Perm (x :: ys)
  | [] => .refl _
  | y :: ys => by
    unfold insD
    split
    · exact .refl _
    · exact ((insD_perm x ys).cons y).trans (.swap ..)
theorem isort_perm : ∀ xs : List PD, (isort xs).Perm xs
  | [] => .refl _
  | x :: xs => (insD_perm x _).trans ((isort_perm xs).cons x)
theorem insD_pw (x : PD) : ∀ ys : List PD, (ys.Pairwise fun a b => leD a b = true) → (insD x ys).Pairwise fun a b => leD a b = true
  | [], _ => List.pairwise_singleton _ _
  | y :: ys, h => by
    rw [List.pairwise_cons] at h
    unfold insD
    split
    · rename_i hx
      refine List.pairwise_cons.mpr ⟨fun z hz => ?_, List.pairwise_cons.mpr h⟩
      rcases List.mem_cons.mp hz with rfl | hz
      · exact hx
      · exact leD_tot.trans _ _ _ hx (h.1 z hz)
    · rename_i hx
      refine List.pairwise_cons.mpr ⟨fun z hz => ?_, insD_pw x ys h.2⟩
      rcases List.mem_cons.mp ((insD_perm x ys).subset hz) with rfl | hz
      · rcases leD_tot.total y z with q | q
        · exact q
        · exact absurd q hx
      · exact h.1 z hz
theorem isort_pw : ∀ xs : List PD, (isort xs).Pairwise fun a b => leD a b = true
  | [] => .nil
  | x :: xs => insD_pw x _ (isort_pw xs)
theorem cmpAll_alike {xs : List PD} (h : cmpAll xs = true) : ∀ x ∈ xs, ∀ y ∈ xs, alike x y = true := fun x hx y hy => by
  have := List.all_eq_true.mp h x hx
  simp only [Bool.and_eq_true] at this
  exact List.all_eq_true.mp this.2 y hy
theorem isort_eq {xs : List PD} (h : cmpAll xs = true) : isort xs = sortL xs := (sort_unique (cmpAll_alike h) (isort_perm xs).symm (isort_pw xs)).symm
end
end Gn

/-! Gn, part B: what the evaluator's data stand for in a heap; the readings. -/
namespace Gn
open PySem PySem.Spec L2
open PyProof.Rows hiding St

/-! ### data in a heap: O are the lists that may still change -/
def Tr (O : Addr → Prop) (H : Hp) (a : Addr) (o : HO) : Prop := H a = some o ∧ ¬ O a
def KL (K : PySem.W.Frag) (a : Addr) (xs : List V) : Prop :=
  ∃ (o : Obj) (its : Array Value) (n : Nat), K.lookup a = some o ∧ o.cls = .type "list" ∧ o.dict = none ∧ o.data = .seq its n ∧ its.size ≤ sizeLine ∧ Vals xs its.toList
def KT (K : PySem.W.Frag) (a : Addr) (xs : List V) : Prop :=
  ∃ (o : Obj) (its : Array Value) (n : Nat), K.lookup a = some o ∧ o.cls = .type "tuple" ∧ o.data = .seq its n ∧ its.size ≤ sizeLine ∧ Vals xs its.toList
/-- a list that is locked -/
def Lk (K : PySem.W.Frag) (O : Addr → Prop) (H : Hp) (a : Addr) (xs : List V) : Prop := (∃ o, Tr O H a (.frz o (.lst xs))) ∨ KL K a xs
def Tp (K : PySem.W.Frag) (O : Addr → Prop) (H : Hp) (a : Addr) (xs : List V) : Prop := Tr O H a (.tup xs) ∨ KT K a xs
variable {K : PySem.W.Frag}
theorem Lk.sq {O : Addr → Prop} {H : Hp} {a : Addr} {xs : List V} (h : Lk K O H a xs) : SqL K H a xs := by
  rcases h with ⟨o, h⟩ | h
  · exact .inl (.inr ⟨o, h.1⟩)
  · exact .inr h
theorem Lk.mono {O O' : Addr → Prop} {H H' : Hp} {a : Addr} {xs : List V} (m : ∀ a o, Tr O H a o → Tr O' H' a o) (h : Lk K O H a xs) : Lk K O' H' a xs := h.imp (fun ⟨o, q⟩ => ⟨o, m _ _ q⟩) id
theorem Tp.sq {O : Addr → Prop} {H : Hp} {a : Addr} {xs : List V} (h : Tp K O H a xs) : SqT K H a xs := by
  rcases h with h | h
  · exact .inl (.inl h.1)
  · exact .inr h
mutual
inductive Rp (K : PySem.W.Frag) (O : Addr → Prop) (H : Hp) : V → PD → Prop
  | non : Rp K O H .non .none
  | bl (b : Bool) : Rp K O H (.bl b) (.bool b)
  | int (i : Int) : Rp K O H (.int i) (.int i)
  | str (x : Str) : Rp K O H (.str x) (.str x)
  | lst {a : Addr} {xs : List V} {ds : List PD} : Tr O H a (.lst xs) → RpL K O H xs ds → Rp K O H (.ref a) (.list ds)
  | tup {a : Addr} {xs : List V} {ds : List PD} : Tp K O H a xs → RpL K O H xs ds → Rp K O H (.ref a) (.tuple ds)
inductive RpL (K : PySem.W.Frag) (O : Addr → Prop) (H : Hp) : List V → List PD → Prop
  | nil : RpL K O H [] []
  | cons {v : V} {vs : List V} {d : PD} {ds : List PD} : Rp K O H v d → RpL K O H vs ds → RpL K O H (v :: vs) (d :: ds)
end
section
variable {O O' : Addr → Prop} {H H' : Hp}
mutual
theorem Rp.mono (m : ∀ a o, Tr O H a o → Tr O' H' a o) : ∀ (d : PD) (v : V), Rp K O H v d → Rp K O' H' v d
  | .none, _, h => by cases h; exact .non
  | .bool b, _, h => by cases h; exact .bl b
  | .int i, _, h => by cases h; exact .int i
  | .str x, _, h => by cases h; exact .str x
  | .list ds, _, h => by
    cases h with
    | lst h1 h2 => exact .lst (m _ _ h1) (RpL.mono m ds _ h2)
  | .tuple ds, _, h => by
    cases h with
    | tup h1 h2 =>
      refine .tup ?_ (RpL.mono m ds _ h2)
      rcases h1 with h | h
      · exact .inl (m _ _ h)
      · exact .inr h
  | .dict _, _, h => by cases h
theorem RpL.mono (m : ∀ a o, Tr O H a o → Tr O' H' a o) : ∀ (ds : List PD) (vs : List V), RpL K O H vs ds → RpL K O' H' vs ds
  | [], _, h => by cases h; exact .nil
  | d :: ds, _, h => by
    cases h with
    | cons h1 h2 => exact .cons (Rp.mono m d _ h1) (RpL.mono m ds _ h2)
end
mutual
theorem Rp.dp : ∀ (d : PD) (v : V), Rp K O H v d → Dp K H v d
  | .none, _, h => by cases h; exact .non
  | .bool b, _, h => by cases h; exact .bl b
  | .int i, _, h => by cases h; exact .int i
  | .str x, _, h => by cases h; exact .str x
  | .list ds, _, h => by
    cases h with
    | lst h1 h2 => exact .lst (.inl (.inl h1.1)) (RpL.dp ds _ h2)
  | .tuple ds, _, h => by
    cases h with
    | tup h1 h2 => exact .tup h1.sq (RpL.dp ds _ h2)
  | .dict _, _, h => by cases h
theorem RpL.dp : ∀ (ds : List PD) (vs : List V), RpL K O H vs ds → DpAll K H vs ds
  | [], _, h => by cases h; exact .nil
  | d :: ds, _, h => by
    cases h with
    | cons h1 h2 => exact .cons (Rp.dp d _ h1) (RpL.dp ds _ h2)
end
theorem RpL.length : ∀ {vs : List V} {ds : List PD}, RpL K O H vs ds → vs.length = ds.length
  | _, _, .nil => rfl
  | _, _, .cons _ h => congrArg (· + 1) (RpL.length h)
theorem RpL.append : ∀ {vs ws : List V} {ds es : List PD}, RpL K O H vs ds → RpL K O H ws es → RpL K O H (vs ++ ws) (ds ++ es)
  | _, _, _, _, .nil, h => h
  | _, _, _, _, .cons r t, h => .cons r (RpL.append t h)
theorem RpL.get : ∀ {vs : List V} {ds : List PD} {i : Nat} {d : PD}, RpL K O H vs ds → ds[i]? = some d → ∃ v, vs[i]? = some v ∧ Rp K O H v d
  | _, _, _, _, .nil, e => by simp at e
  | _, _, 0, _, .cons r _, e => by simp at e; subst e; exact ⟨_, rfl, r⟩
  | _, _, i + 1, d, .cons _ t, e => by
    obtain ⟨v, h1, h2⟩ := RpL.get (i := i) (d := d) t (by simpa using e)
    exact ⟨v, by simpa using h1, h2⟩
theorem RpL.getv : ∀ {vs : List V} {ds : List PD} {i : Nat} {v : V}, RpL K O H vs ds → vs[i]? = some v → ∃ d, ds[i]? = some d ∧ Rp K O H v d
  | _, _, _, _, .nil, e => by simp at e
  | _, _, 0, _, .cons r _, e => by simp at e; subst e; exact ⟨_, rfl, r⟩
  | _, _, i + 1, d, .cons _ t, e => by
    obtain ⟨v, h1, h2⟩ := RpL.getv (i := i) (v := d) t (by simpa using e)
    exact ⟨v, by simpa using h1, h2⟩
theorem RpL.take : ∀ {vs : List V} {ds : List PD} (n : Nat), RpL K O H vs ds → RpL K O H (vs.take n) (ds.take n)
  | _, _, 0, _ => by simp; exact .nil
  | _, _, n + 1, .nil => by simp; exact .nil
  | _, _, n + 1, .cons r t => by simpa using RpL.cons r (RpL.take n t)
theorem RpL.drop : ∀ {vs : List V} {ds : List PD} (n : Nat), RpL K O H vs ds → RpL K O H (vs.drop n) (ds.drop n)
  | _, _, 0, h => h
  | _, _, n + 1, .nil => by simp; exact .nil
  | _, _, n + 1, .cons r t => by simpa using RpL.drop n t
theorem RpL.reverse {vs : List V} {ds : List PD} (h : RpL K O H vs ds) : RpL K O H vs.reverse ds.reverse := by
  induction vs generalizing ds with
  | nil => cases h; exact .nil
  | cons v vs ih =>
    cases h with
    | cons r t =>
      rw [List.reverse_cons, List.reverse_cons]
      exact (ih t).append (.cons r .nil)
theorem RpL.set : ∀ {vs : List V} {ds : List PD} {v : V} {d : PD} (i : Nat), RpL K O H vs ds → Rp K O H v d → RpL K O H (vs.set i v) (ds.set i d)
  | _, _, _, _, _, .nil, _ => .nil
  | _, _, _, _, 0, .cons _ t, r => .cons r t
  | _, _, _, _, i + 1, .cons q t, r => .cons q (RpL.set i t r)
theorem RpL.erase : ∀ {vs : List V} {ds : List PD} (i : Nat), RpL K O H vs ds → RpL K O H (vs.eraseIdx i) (ds.eraseIdx i)
  | _, _, _, .nil => .nil
  | _, _, 0, .cons _ t => t
  | _, _, i + 1, .cons q t => .cons q (RpL.erase i t)
end

/-! ### slots -/
def isOwn : Vl → Bool
  | .val _ => false
  | .own _ _ => true
  | .dic _ _ => true
  | .lok _ => false
def brOf : Vl → Bool
  | .val _ => false
  | .own _ b => b
  | .dic _ b => b
  | .lok _ => false
/-- the addresses of what the slots own -/
def Ow (ρ : Env) (σ : St) (a : Addr) : Prop := ∃ i x, getS ρ i = some x ∧ isOwn x = true ∧ σ[i]? = some (some (.ref a))
def OO (Z : Addr → Prop) (ρ : Env) (σ : St) (a : Addr) : Prop := Z a ∨ Ow ρ σ a
def RpS (K : PySem.W.Frag) (O : Addr → Prop) (H : Hp) (v : V) : Vl → Prop
  | .val d => Rp K O H v d
  | .own xs _ => ∃ a vs, v = .ref a ∧ H a = some (.lst vs) ∧ RpL K O H vs xs
  | .dic _ _ => False
  | .lok xs => ∃ a vs, v = .ref a ∧ Lk K O H a vs ∧ RpL K O H vs xs
/-- H₀: the heap at the def's entry; B i: where what is lent at slot i stands; Z: the callers' lists that may change -/
structure StOk (K : PySem.W.Frag) (H₀ : Hp) (B : Nat → Addr → Prop) (Z : Addr → Prop) (ρ : Env) (σ : St) (H : Hp) : Prop where
  len : ρ.length = σ.length
  keep : ∀ a o, H₀ a = some o → (¬ ∃ i, B i a) → H a = some o
  bt₀ : ∀ i a, B i a → ∃ o, H₀ a = some o
  btr : ∀ i a, B i a → ∃ o, H a = some o
  zok : ∀ a, Z a → (∃ o, H a = some o) ∧ ¬ ∃ i, B i a
  slot : ∀ i x, getS ρ i = some x → ∃ v, σ[i]? = some (some v) ∧ RpS K (OO Z ρ σ) H v x
  own : ∀ i x a, getS ρ i = some x → isOwn x = true → σ[i]? = some (some (.ref a)) → ¬ Z a ∧ (if brOf x = true then B i a else H₀ a = none)
  inj : ∀ i j x y a, getS ρ i = some x → isOwn x = true → getS ρ j = some y → isOwn y = true → σ[i]? = some (some (.ref a)) → σ[j]? = some (some (.ref a)) → i = j
/-- from ρ, H to H': all is kept but what the slots of T own -/
def Ev (T : List Nat) (ρ : Env) (σ : St) (H H' : Hp) : Prop := ∀ a o, H a = some o → (¬ ∃ i ∈ T, ∃ x, getS ρ i = some x ∧ isOwn x = true ∧ σ[i]? = some (some (.ref a))) → H' a = some o
/-- from ρ to ρ': data stay; a list stays its slot's, or is data from now on; only those of T change -/
def SlLe (i : Nat) (T : List Nat) : Option Vl → Option Vl → Prop
  | none, y => y = none
  | some (.val d), y => y = some (.val d)
  | some (.own xs b), y => ∃ xs', (i ∉ T → xs' = xs) ∧ (y = some (.own xs' b) ∨ y = some (.val (.list xs')) ∨ (y = none ∧ i ∈ T))
  | some (.dic kvs b), y => ∃ kvs', (i ∉ T → kvs' = kvs) ∧ (y = some (.dic kvs' b) ∨ (y = none ∧ i ∈ T))
  | some (.lok xs), y => y = some (.lok xs) ∨ (y = none ∧ i ∈ T)
def EnvLe (T : List Nat) (ρ ρ' : Env) : Prop := ρ'.length = ρ.length ∧ ∀ i, SlLe i T (getS ρ i) (getS ρ' i)
theorem SlLe.refl {i : Nat} {T : List Nat} : ∀ x, SlLe i T x x
  | none => rfl
  | some (.val _) => rfl
  | some (.own xs b) => ⟨xs, fun _ => rfl, .inl rfl⟩
  | some (.dic xs b) => ⟨xs, fun _ => rfl, .inl rfl⟩
  | some (.lok xs) => .inl rfl
theorem SlLe.trans {i : Nat} {T : List Nat} : ∀ {x y z}, SlLe i T x y → SlLe i T y z → SlLe i T x z
  | none, y, z, h1, h2 => by
    have e : y = none := h1
    subst e; exact h2
  | some (.val d), y, z, h1, h2 => by
    have e : y = some (.val d) := h1
    subst e; exact h2
  | some (.own xs b), y, z, h1, h2 => by
    obtain ⟨xs', e1, rfl | rfl | ⟨rfl, hT⟩⟩ := h1
    · obtain ⟨xs2, e2, h2⟩ := h2
      exact ⟨xs2, fun h => (e2 h).trans (e1 h), h2⟩
    · have e : z = some (.val (.list xs')) := h2
      exact ⟨xs', e1, .inr (.inl e)⟩
    · have e : z = none := h2
      exact ⟨xs', e1, .inr (.inr ⟨e, hT⟩)⟩
  | some (.dic xs b), y, z, h1, h2 => by
    obtain ⟨xs', e1, rfl | ⟨rfl, hT⟩⟩ := h1
    · obtain ⟨xs2, e2, h2⟩ := h2
      exact ⟨xs2, fun h => (e2 h).trans (e1 h), h2⟩
    · have e : z = none := h2
      exact ⟨xs', e1, .inr ⟨e, hT⟩⟩
  | some (.lok xs), y, z, h1, h2 => by
    rcases h1 with rfl | ⟨rfl, hT⟩
    · exact h2
    · have e : z = none := h2
      exact .inr ⟨e, hT⟩
theorem SlLe.mono {i : Nat} {T T' : List Nat} (h : ∀ j ∈ T, j ∈ T') : ∀ {x y}, SlLe i T x y → SlLe i T' x y
  | none, _, q => q
  | some (.val _), _, q => q
  | some (.own _ _), _, ⟨xs', e, q⟩ => ⟨xs', fun z => e fun w => z (h _ w), q.imp id (Or.imp id fun ⟨a, b⟩ => ⟨a, h _ b⟩)⟩
  | some (.dic _ _), _, ⟨xs', e, q⟩ => ⟨xs', fun z => e fun w => z (h _ w), q.imp id fun ⟨a, b⟩ => ⟨a, h _ b⟩⟩
  | some (.lok _), _, q => q.imp id fun ⟨a, b⟩ => ⟨a, h _ b⟩
theorem EnvLe.refl {T : List Nat} (ρ : Env) : EnvLe T ρ ρ := ⟨rfl, fun _ => .refl _⟩
theorem EnvLe.trans {T : List Nat} {ρ ρ1 ρ2 : Env} (h1 : EnvLe T ρ ρ1) (h2 : EnvLe T ρ1 ρ2) : EnvLe T ρ ρ2 := ⟨h2.1.trans h1.1, fun i => (h1.2 i).trans (h2.2 i)⟩
theorem EnvLe.mono {T T' : List Nat} {ρ ρ' : Env} (h : ∀ j ∈ T, j ∈ T') (q : EnvLe T ρ ρ') : EnvLe T' ρ ρ' := ⟨q.1, fun i => (q.2 i).mono h⟩
/-- what a slot owns behind it owned ahead -/
theorem SlLe.own {i : Nat} {T : List Nat} {x : Option Vl} {y : Vl} (h : SlLe i T x (some y)) (ho : isOwn y = true) : ∃ x', x = some x' ∧ isOwn x' = true ∧ brOf x' = brOf y := by
  match x, h with
  | none, h => cases h
  | some (.val d), h =>
    have e : some y = some (.val d) := h
    cases e; cases ho
  | some (.own xs b), ⟨xs', _, h⟩ =>
    rcases h with h | h | ⟨h, _⟩
    · cases h; exact ⟨_, rfl, rfl, rfl⟩
    · cases h; cases ho
    · cases h
  | some (.dic xs b), ⟨xs', _, h⟩ =>
    rcases h with h | ⟨h, _⟩
    · cases h; exact ⟨_, rfl, rfl, rfl⟩
    · cases h
  | some (.lok xs), h =>
    rcases h with h | ⟨h, _⟩
    · cases h; cases ho
    · cases h
theorem EnvLe.ow {T : List Nat} {ρ ρ' : Env} (h : EnvLe T ρ ρ') {σ : St} {a : Addr} (q : Ow ρ' σ a) : Ow ρ σ a := by
  obtain ⟨i, y, h1, h2, h3⟩ := q
  have q := h.2 i
  rw [h1] at q
  obtain ⟨x, e, ho, _⟩ := q.own h2
  exact ⟨i, x, e, ho, h3⟩
theorem EnvLe.oo {T : List Nat} {ρ ρ' : Env} (h : EnvLe T ρ ρ') {σ : St} {Z : Addr → Prop} {a : Addr} (q : OO Z ρ' σ a) : OO Z ρ σ a := q.imp id h.ow
theorem Ev.refl {T : List Nat} {ρ : Env} {σ : St} {H : Hp} : Ev T ρ σ H H := fun _ _ h _ => h
theorem Ev.of_same {T : List Nat} {ρ : Env} {σ : St} {H H' : Hp} (h : Same H H') : Ev T ρ σ H H' := fun a o e _ => h a o e
theorem Ev.trans {T : List Nat} {ρ ρ1 : Env} {σ : St} {H H1 H2 : Hp} (h1 : Ev T ρ σ H H1) (le : EnvLe T ρ ρ1) (h2 : Ev T ρ1 σ H1 H2) : Ev T ρ σ H H2 := fun a o e n =>
  h2 a o (h1 a o e n) fun ⟨i, hi, y, e1, e2, e3⟩ => by
    have q := le.2 i
    rw [e1] at q
    obtain ⟨x, ex, ho, _⟩ := q.own e2
    exact n ⟨i, hi, x, ex, ho, e3⟩
theorem Ev.mono {T T' : List Nat} {ρ : Env} {σ : St} {H H' : Hp} (h : ∀ j ∈ T, j ∈ T') (q : Ev T ρ σ H H') : Ev T' ρ σ H H' := fun a o e n => q a o e fun ⟨i, hi, z⟩ => n ⟨i, h i hi, z⟩
section
variable {H₀ : Hp} {B : Nat → Addr → Prop} {Z : Addr → Prop} {ρ ρ' : Env} {σ : St} {H H' : Hp} {T : List Nat}
/-- tracked things that are none of O stay so -/
theorem Ev.tr (h : Ev T ρ σ H H') (le : EnvLe T ρ ρ') : ∀ a o, Tr (OO Z ρ σ) H a o → Tr (OO Z ρ' σ) H' a o := fun a o q =>
  ⟨h a o q.1 fun ⟨i, _, x, e1, e2, e3⟩ => q.2 (.inr ⟨i, x, e1, e2, e3⟩), fun z => q.2 (le.oo z)⟩
theorem StOk.tracked (S : StOk K H₀ B Z ρ σ H) {a : Addr} (h : OO Z ρ σ a) : ∃ o, H a = some o := by
  rcases h with h | ⟨i, x, h1, h2, h3⟩
  · exact (S.zok a h).1
  · obtain ⟨v, e, r⟩ := S.slot i x h1
    rw [h3] at e; cases e
    cases x with
    | val d => cases h2
    | own xs b =>
      obtain ⟨a', vs, e, q, _⟩ := r
      cases e; exact ⟨_, q⟩
    | dic _ _ => exact r.elim
    | lok xs => cases h2
theorem StOk.fresh (S : StOk K H₀ B Z ρ σ H) {a : Addr} (h : H a = none) : ¬ OO Z ρ σ a := fun q => by
  obtain ⟨o, e⟩ := S.tracked q
  rw [h] at e; cases e
theorem StOk.fresh₀ (S : StOk K H₀ B Z ρ σ H) {a : Addr} (h : H a = none) : H₀ a = none := by
  cases e : H₀ a with
  | none => rfl
  | some o =>
    by_cases hb : ∃ i, B i a
    · obtain ⟨i, hb⟩ := hb
      obtain ⟨o', e'⟩ := S.btr i a hb
      rw [h] at e'; cases e'
    · have := S.keep a o e hb
      rw [h] at this; cases this
theorem RpS.mono {O O' : Addr → Prop} (m : ∀ a o, Tr O H a o → Tr O' H' a o) {v : V} {x : Vl} (h : RpS K O H v x) (hl : ∀ a vs, isOwn x = true → v = .ref a → H a = some (.lst vs) → H' a = some (.lst vs)) : RpS K O' H' v x := by
  cases x with
  | val d => exact Rp.mono m d v h
  | own xs b =>
    obtain ⟨a, vs, e, q, r⟩ := h
    exact ⟨a, vs, e, hl a vs rfl e q, RpL.mono m xs vs r⟩
  | dic _ _ => exact h
  | lok xs =>
    obtain ⟨a, vs, e, q, r⟩ := h
    exact ⟨a, vs, e, q.mono m, RpL.mono m xs vs r⟩
/-- the heap has grown -/
theorem StOk.same (S : StOk K H₀ B Z ρ σ H) (h : Same H H') : StOk K H₀ B Z ρ σ H' where
  len := S.len
  keep := fun a o e n => h a o (S.keep a o e n)
  bt₀ := S.bt₀
  btr := fun i a hb => let ⟨o, e⟩ := S.btr i a hb; ⟨o, h a o e⟩
  zok := fun a z => ⟨let ⟨o, e⟩ := (S.zok a z).1; ⟨o, h a o e⟩, (S.zok a z).2⟩
  slot := fun i x e => by
    obtain ⟨v, e1, r⟩ := S.slot i x e
    exact ⟨v, e1, r.mono (fun a o q => ⟨h a o q.1, q.2⟩) fun a vs _ _ q => h a _ q⟩
  own := S.own
  inj := S.inj
end
end Gn

/-! Gn, part C: readings of the evaluator, how they are put together. -/
namespace Gn
open PySem PySem.Spec L2
open PyProof.Rows hiding St

theorem getS_set_self {ρ : Env} {i : Nat} {x : Option Vl} (h : i < ρ.length) : getS (ρ.set i x) i = x := by
  unfold getS; rw [List.getElem?_set_self h]; rfl
theorem getS_set_ne {ρ : Env} {i j : Nat} {x : Option Vl} (h : i ≠ j) : getS (ρ.set i x) j = getS ρ j := by
  unfold getS; rw [List.getElem?_set_ne h]
theorem getS_lt {ρ : Env} {i : Nat} {x : Vl} (h : getS ρ i = some x) : i < ρ.length := by
  unfold getS at h
  by_cases hi : i < ρ.length
  · exact hi
  · rw [List.getElem?_eq_none (by omega)] at h; cases h

section
variable {α β γ δ : Type} {K : PySem.W.Frag} {cad : Nat → Option Addr} {W : WX} {T T1 : List Nat} {H₀ : Hp} {B : Nat → Addr → Prop} {Z : Addr → Prop} {ρ ρ' ρ1 : Env} {σ : St} {H H' H1 : Hp} {v : V} {x : Rv} {d : PD}

/-- a datum that is looked at: its own list may change later -/
def Pk (K : PySem.W.Frag) (O : Addr → Prop) (H : Hp) (v : V) : PD → Prop
  | .list xs => ∃ a vs, v = .ref a ∧ H a = some (.lst vs) ∧ RpL K O H vs xs
  | d => Rp K O H v d
/-- .. its list may be locked -/
def PkC (K : PySem.W.Frag) (O : Addr → Prop) (H : Hp) (v : V) : PD → Prop
  | .list xs => ∃ a vs, v = .ref a ∧ SqL K H a vs ∧ RpL K O H vs xs
  | d => Rp K O H v d
theorem Pk.c {O : Addr → Prop} : ∀ {d : PD}, Pk K O H v d → PkC K O H v d
  | .none, h => h
  | .bool _, h => h
  | .int _, h => h
  | .str _, h => h
  | .tuple _, h => h
  | .dict _, h => h
  | .list xs, ⟨a, vs, e, h1, h2⟩ => ⟨a, vs, e, .inl (.inl h1), h2⟩
theorem Rp.pk {O : Addr → Prop} : ∀ {d : PD}, Rp K O H v d → Pk K O H v d
  | .none, h => h
  | .bool _, h => h
  | .int _, h => h
  | .str _, h => h
  | .tuple _, h => h
  | .dict _, h => h
  | .list xs, h => by
    cases h with
    | lst h1 h2 => exact ⟨_, _, rfl, h1.1, h2⟩
theorem Pk.dp {O : Addr → Prop} : ∀ {d : PD}, Pk K O H v d → Dp K H v d
  | .none, h => Rp.dp _ _ h
  | .bool _, h => Rp.dp _ _ h
  | .int _, h => Rp.dp _ _ h
  | .str _, h => Rp.dp _ _ h
  | .tuple _, h => Rp.dp _ _ h
  | .dict _, h => Rp.dp _ _ h
  | .list xs, h => by
    obtain ⟨a, vs, rfl, h1, h2⟩ := h
    exact .lst (.inl (.inl h1)) (RpL.dp _ _ h2)
/-- O and one more -/
def OA (O : Addr → Prop) (a c : Addr) : Prop := O c ∨ c = a
theorem OA.tr {O : Addr → Prop} {a : Addr} : ∀ c o, Tr (OA O a) H c o → Tr O H c o := fun c o q => ⟨q.1, fun z => q.2 (.inl z)⟩
theorem RpL.un {O : Addr → Prop} {a : Addr} {vs : List V} {ds : List PD} (r : RpL K (OA O a) H vs ds) : RpL K O H vs ds := RpL.mono OA.tr ds vs r
/-- an expression's answer (a slot's answer: whatever it then holds) -/
def RpV (K : PySem.W.Frag) : Hp → (Addr → Prop) → Env → St → Hp → V → Rv → Prop := fun H₀ O ρ σ H v r => match r with
  | .v (.val d) => Rp K O H v d
  | .v (.own xs false) => ∃ a vs, v = .ref a ∧ H a = some (.lst vs) ∧ RpL K (OA O a) H vs xs ∧ ¬ O a ∧ H₀ a = none
  | .v _ => False
  | .al i => σ[i]? = some (some v)
theorem RpV.step (le : EnvLe T ρ ρ') (e : Ev T ρ σ H H') (r : RpV K H₀ (OO Z ρ σ) ρ σ H v x) : RpV K H₀ (OO Z ρ' σ) ρ' σ H' v x := by
  match x, r with
  | .v (.val d), r => exact Rp.mono (e.tr le) d v r
  | .v (.own xs false), r =>
    obtain ⟨a, vs, rfl, h1, h2, h3, h4⟩ := r
    exact ⟨a, vs, rfl, (e.tr le a _ ⟨h1, h3⟩).1, RpL.mono (fun c o q => ⟨(e.tr le c o (OA.tr c o q)).1, fun z => q.2 (z.imp le.oo id)⟩) _ _ h2, fun q => h3 (le.oo q), h4⟩
  | .al i, r => exact r
theorem Rp.step (le : EnvLe T ρ ρ') (e : Ev T ρ σ H H') (r : Rp K (OO Z ρ σ) H v d) : Rp K (OO Z ρ' σ) H' v d := Rp.mono (e.tr le) d v r
theorem RpL.step {vs : List V} {ds : List PD} (le : EnvLe T ρ ρ') (e : Ev T ρ σ H H') (r : RpL K (OO Z ρ σ) H vs ds) : RpL K (OO Z ρ' σ) H' vs ds := RpL.mono (e.tr le) ds vs r

theorem peek_ok (S : StOk K H₀ B Z ρ σ H) (r : RpV K H₀ (OO Z ρ σ) ρ σ H v x) : peekR x ρ = .bad ∨ ∃ d, peekR x ρ = .ok d ρ ∧ Pk K (OO Z ρ σ) H v d := by
  match x, r with
  | .v (.val d), r => exact .inr ⟨d, rfl, Rp.pk r⟩
  | .v (.own xs false), r =>
    obtain ⟨a, vs, rfl, h1, h2, h3, h4⟩ := r
    exact .inr ⟨_, rfl, a, vs, rfl, h1, h2.un⟩
  | .al i, r =>
    unfold peekR
    cases e : getS ρ i with
    | none => exact .inl (by simp [e])
    | some y =>
      obtain ⟨v', e1, rs⟩ := S.slot i y e
      have r' : σ[i]? = some (some v) := r
      rw [r'] at e1; cases e1
      cases y with
      | val d => exact .inr ⟨d, by simp [e, Vl.d], Rp.pk rs⟩
      | own xs b =>
        obtain ⟨a, vs, rfl, h1, h2⟩ := rs
        exact .inr ⟨.list xs, by simp [e, Vl.d], a, vs, rfl, h1, h2⟩
      | dic _ _ => exact rs.elim
      | lok xs => exact .inl (by simp [e, Vl.d])
theorem peekC_ok (S : StOk K H₀ B Z ρ σ H) (r : RpV K H₀ (OO Z ρ σ) ρ σ H v x) : peekC x ρ = .bad ∨ ∃ d, peekC x ρ = .ok d ρ ∧ PkC K (OO Z ρ σ) H v d := by
  match x, r with
  | .v (.val d), r => exact .inr ⟨d, rfl, (Rp.pk r).c⟩
  | .v (.own xs false), r =>
    obtain ⟨a, vs, rfl, h1, h2, h3, h4⟩ := r
    exact .inr ⟨_, rfl, a, vs, rfl, .inl (.inl h1), h2.un⟩
  | .al i, r =>
    unfold peekC
    cases e : getS ρ i with
    | none => exact .inl (by simp [e])
    | some y =>
      obtain ⟨v', e1, rs⟩ := S.slot i y e
      have r' : σ[i]? = some (some v) := r
      rw [r'] at e1; cases e1
      cases y with
      | val d => exact .inr ⟨d, by simp [e, Vl.cut], Pk.c (Rp.pk (show Rp K _ H v d from rs))⟩
      | own xs b =>
        obtain ⟨a, vs, rfl, h1, h2⟩ := rs
        exact .inr ⟨.list xs, by simp [e, Vl.cut], a, vs, rfl, .inl (.inl h1), h2⟩
      | dic _ _ => exact rs.elim
      | lok xs =>
        obtain ⟨a, vs, rfl, h1, h2⟩ := rs
        exact .inr ⟨.list xs, by simp [e, Vl.cut], a, vs, rfl, h1.sq, h2⟩

/-- a new thing is set apart -/
theorem StOk.addF (S : StOk K H₀ B Z ρ σ H) (s : Same H H') {a : Addr} (hn : H a = none) (ha : ∃ o, H' a = some o) : StOk K H₀ B (fun c => Z c ∨ c = a) ρ σ H' := by
  have S' := S.same s
  have ne : ∀ c o, H c = some o → c ≠ a := fun c o e z => by
    subst z
    rw [hn] at e; cases e
  have m : ∀ c o, Tr (OO Z ρ σ) H c o → Tr (OO (fun c => Z c ∨ c = a) ρ σ) H' c o := fun c o q => ⟨s c o q.1, fun z => by
    rcases z with (z | z) | z
    · exact q.2 (.inl z)
    · exact ne c o q.1 z
    · exact q.2 (.inr z)⟩
  refine ⟨S.len, S'.keep, S.bt₀, S'.btr, fun c z => ?_, fun i x e => ?_, fun i x c e1 e2 e3 => ⟨fun z => ?_, (S.own i x c e1 e2 e3).2⟩, S.inj⟩
  · rcases z with z | z
    · exact S'.zok c z
    · subst z
      exact ⟨ha, fun ⟨i, hb⟩ => by
        obtain ⟨o, e⟩ := S.btr i _ hb
        exact ne _ o e rfl⟩
  · obtain ⟨v, e1, r⟩ := S.slot i x e
    exact ⟨v, e1, r.mono m fun c vs _ _ q => s c _ q⟩
  · rcases z with z | z
    · exact (S.own i x c e1 e2 e3).1 z
    · obtain ⟨o, e⟩ := S.tracked (.inr ⟨i, x, e1, e2, e3⟩)
      exact ne c o e z
theorem StOk.dropZ {Z' : Addr → Prop} (S : StOk K H₀ B Z' ρ σ H) (h : ∀ a, Z a → Z' a) : StOk K H₀ B Z ρ σ H := by
  have m : ∀ c o, Tr (OO Z' ρ σ) H c o → Tr (OO Z ρ σ) H c o := fun c o q => ⟨q.1, fun z => q.2 (z.imp (h c) id)⟩
  refine ⟨S.len, S.keep, S.bt₀, S.btr, fun c z => S.zok c (h c z), fun i x e => ?_, fun i x c e1 e2 e3 => ⟨fun z => (S.own i x c e1 e2 e3).1 (h c z), (S.own i x c e1 e2 e3).2⟩, S.inj⟩
  obtain ⟨v, e1, r⟩ := S.slot i x e
  exact ⟨v, e1, r.mono m fun c vs _ _ q => q⟩
/-- nothing that stands in a slot leads to the new list -/
def Sep (K : PySem.W.Frag) (H₀ : Hp) (B : Nat → Addr → Prop) (Z : Addr → Prop) (ρ : Env) (σ : St) (H : Hp) (v : V) : Rv → Prop
  | .v (.own _ _) => ∀ a, v = .ref a → StOk K H₀ B (fun c => Z c ∨ c = a) ρ σ H
  | _ => True
/-- an expression's end -/
def RpF (K : PySem.W.Frag) : Hp → (Nat → Addr → Prop) → (Addr → Prop) → Env → St → Hp → V → Rv → Prop := fun H₀ B Z ρ σ H v x => RpV K H₀ (OO Z ρ σ) ρ σ H v x ∧ Sep K H₀ B Z ρ σ H v x
/-- slot i's list is data from now on -/
theorem StOk.freeze (S : StOk K H₀ B Z ρ σ H) {i : Nat} {xs : List PD} {b : Bool} (e : getS ρ i = some (.own xs b)) :
    EnvLe [] ρ (ρ.set i (some (.val (.list xs)))) ∧ StOk K H₀ B Z (ρ.set i (some (.val (.list xs)))) σ H ∧ ∀ v, σ[i]? = some (some v) → Rp K (OO Z (ρ.set i (some (.val (.list xs)))) σ) H v (.list xs) := by
  have hi := getS_lt e
  have le : EnvLe [] ρ (ρ.set i (some (.val (.list xs)))) := by
    refine ⟨List.length_set .., fun j => ?_⟩
    by_cases hj : i = j
    · subst hj
      rw [getS_set_self hi, e]
      exact ⟨xs, fun _ => rfl, .inr (.inl rfl)⟩
    · rw [getS_set_ne hj]; exact .refl _
  obtain ⟨v, e1, a, vs, rfl, h1, h2⟩ := S.slot i _ e
  have hO := S.own i _ a e rfl e1
  have nO : ¬ OO Z (ρ.set i (some (.val (.list xs)))) σ a := by
    rintro (h | ⟨j, y, f1, f2, f3⟩)
    · exact hO.1 h
    · by_cases hj : i = j
      · subst hj
        rw [getS_set_self hi] at f1; cases f1; cases f2
      · rw [getS_set_ne hj] at f1
        exact hj (S.inj i j _ _ a e rfl f1 f2 e1 f3)
  have m : ∀ a o, Tr (OO Z ρ σ) H a o → Tr (OO Z (ρ.set i (some (.val (.list xs)))) σ) H a o := fun a o q => ⟨q.1, fun z => q.2 (le.oo z)⟩
  have new : Rp K (OO Z (ρ.set i (some (.val (.list xs)))) σ) H (.ref a) (.list xs) := .lst ⟨h1, nO⟩ (RpL.mono m _ _ h2)
  refine ⟨le, ⟨by rw [List.length_set]; exact S.len, S.keep, S.bt₀, S.btr, S.zok, fun j y f => ?_, fun j y c f1 f2 f3 => ?_, fun j k y z c f1 f2 f3 f4 f5 f6 => ?_⟩, fun w hw => ?_⟩
  · by_cases hj : i = j
    · subst hj
      rw [getS_set_self hi] at f; cases f
      exact ⟨_, e1, new⟩
    · rw [getS_set_ne hj] at f
      obtain ⟨w, g1, g2⟩ := S.slot j y f
      exact ⟨w, g1, g2.mono m fun _ _ _ _ q => q⟩
  · by_cases hj : i = j
    · subst hj
      rw [getS_set_self hi] at f1; cases f1; cases f2
    · rw [getS_set_ne hj] at f1
      exact S.own j y c f1 f2 f3
  · by_cases hj : i = j
    · subst hj
      rw [getS_set_self hi] at f1; cases f1; cases f2
    · by_cases hk : i = k
      · subst hk
        rw [getS_set_self hi] at f3; cases f3; cases f4
      · rw [getS_set_ne hj] at f1
        rw [getS_set_ne hk] at f3
        exact S.inj j k y z c f1 f2 f3 f4 f5 f6
  · rw [e1] at hw; cases hw; exact new
theorem freeze_ok (S : StOk K H₀ B Z ρ σ H) (r : RpV K H₀ (OO Z ρ σ) ρ σ H v x) : freeze x ρ = .bad ∨ ∃ d ρ', freeze x ρ = .ok d ρ' ∧ EnvLe [] ρ ρ' ∧ StOk K H₀ B Z ρ' σ H ∧ Rp K (OO Z ρ' σ) H v d := by
  match x, r with
  | .v (.val d), r => exact .inr ⟨d, ρ, rfl, .refl _, S, r⟩
  | .v (.own xs false), r =>
    obtain ⟨a, vs, rfl, h1, h2, h3, h4⟩ := r
    exact .inr ⟨_, ρ, rfl, .refl _, S, .lst ⟨h1, h3⟩ h2.un⟩
  | .al i, r =>
    have r' : σ[i]? = some (some v) := r
    cases e : getS ρ i with
    | none => exact .inl (by simp [Gn.freeze, e])
    | some y =>
      cases y with
      | val d =>
        obtain ⟨v', e1, rs⟩ := S.slot i _ e
        rw [r'] at e1; cases e1
        exact .inr ⟨d, ρ, by simp [Gn.freeze, e], .refl _, S, rs⟩
      | own xs b =>
        obtain ⟨h1, h2, h3⟩ := S.freeze e
        exact .inr ⟨_, _, by simp [Gn.freeze, e], h1, h2, h3 v r'⟩
      | dic _ _ => exact .inl (by simp [Gn.freeze, e])
      | lok _ => exact .inl (by simp [Gn.freeze, e])
theorem settle_ok (S : StOk K H₀ B Z ρ σ H) (r : RpF K H₀ B Z ρ σ H v x) : settle x ρ = .bad ∨ ∃ y ρ', settle x ρ = .ok (.v y) ρ' ∧ EnvLe [] ρ ρ' ∧ StOk K H₀ B Z ρ' σ H ∧ RpF K H₀ B Z ρ' σ H v (.v y) := by
  match x, r with
  | .v y, r => exact .inr ⟨y, ρ, rfl, .refl _, S, r⟩
  | .al i, r =>
    rcases freeze_ok S r.1 with e | ⟨d, ρ', e, h1, h2, h3⟩
    · exact .inl (by simp [settle, M.bind, e])
    · exact .inr ⟨.val d, ρ', by simp [settle, M.bind, e, M.ret], h1, h2, h3, trivial⟩

/-! ### readings -/
/-- what an exception is in the model -/
def ExIs (cad : Nat → Option Addr) (c : Exn) (cl : Value) (d : Option Addr) (H : Hp) : Prop := (∃ a, cad c.cls = some a ∧ cl = .ref a) ∧ c.arg = none ∧ d = none
/-- an evaluation changes no slot beyond EnvLe -/
def MOk (T : List Nat) (f : M α) : Prop := ∀ ρ, match f ρ with
  | .ok _ ρ' => EnvLe T ρ ρ'
  | .ex _ ρ' => EnvLe T ρ ρ'
  | .bad => True
theorem MOk.ok {f : M α} (h : MOk T f) {a : α} (e : f ρ = .ok a ρ') : EnvLe T ρ ρ' := by
  have q := h ρ
  rw [e] at q; exact q
theorem MOk.ex {f : M α} (h : MOk T f) {c : Exn} (e : f ρ = .ex c ρ') : EnvLe T ρ ρ' := by
  have q := h ρ
  rw [e] at q; exact q
theorem MOk.mono {f : M α} (s : ∀ j ∈ T1, j ∈ T) (h : MOk T1 f) : MOk T f := fun ρ => by
  have q := h ρ
  cases e : f ρ with
  | ok a ρ' => rw [e] at q; exact EnvLe.mono s q
  | ex a ρ' => rw [e] at q; exact EnvLe.mono s q
  | bad => trivial
theorem MOk.bind {f : M α} {g : α → M γ} (h : MOk T f) (hg : ∀ a, MOk T (g a)) : MOk T (f.bind g) := fun ρ => by
  unfold M.bind
  cases e : f ρ with
  | ok a ρ' =>
    have q := h.ok e
    have q2 := hg a ρ'
    show match g a ρ' with | .ok _ ρ' => _ | .ex _ ρ' => _ | .bad => _
    cases e2 : g a ρ' with
    | ok b ρ2 => rw [e2] at q2; exact q.trans q2
    | ex c ρ2 => rw [e2] at q2; exact q.trans q2
    | bad => trivial
  | ex c ρ' => exact h.ex e
  | bad => trivial
theorem MOk.ret {a : α} : MOk T (M.ret a) := fun ρ => .refl _
theorem MOk.bad : MOk T (M.bad : M α) := fun ρ => trivial
theorem MOk.ofO : ∀ {o : Option α}, MOk T (M.ofO o)
  | some a => fun ρ => .refl _
  | none => fun ρ => trivial
theorem MOk.ite {c : Bool} {f g : M α} (h1 : MOk T f) (h2 : MOk T g) : MOk T (if c = true then f else g) := by
  cases c
  · exact h2
  · exact h1
theorem MOk.peek : MOk T (peekR x) := fun ρ => by
  unfold peekR
  cases x with
  | v y => cases y <;> first | exact .refl _ | trivial
  | al i =>
    cases e : getS ρ i with
    | none => simp only [e]
    | some y => cases y <;> simp only [e, Vl.d] <;> exact .refl _
theorem MOk.peekC : MOk T (peekC x) := fun ρ => by
  unfold Gn.peekC
  cases x with
  | v y => cases y <;> first | exact .refl _ | trivial
  | al i =>
    cases e : getS ρ i with
    | none => simp only [e]
    | some y => cases y <;> simp only [e, Vl.cut] <;> exact .refl _
theorem MOk.freeze : MOk T (freeze x) := fun ρ => by
  unfold Gn.freeze
  cases x with
  | v y => cases y <;> first | exact .refl _ | trivial
  | al i =>
    cases e : getS ρ i with
    | none => simp only [e]
    | some y =>
      cases y with
      | val d => simp only [e]; exact .refl _
      | dic _ _ => simp only [e]
      | lok _ => simp only [e]
      | own xs b =>
        simp only [e]
        refine ⟨List.length_set .., fun j => ?_⟩
        by_cases hj : i = j
        · subst hj
          rw [getS_set_self (getS_lt e), e]
          exact ⟨xs, fun _ => rfl, .inr (.inl rfl)⟩
        · rw [getS_set_ne hj]; exact .refl _
theorem MOk.settle : MOk T (settle x) := by
  cases x with
  | v y => exact .ret
  | al i => exact .bind .freeze fun _ => .ret
theorem MOk.readV {i : Nat} : MOk T (readV i) := fun ρ => by
  unfold Gn.readV
  cases e : getS ρ i with
  | none => simp only [e]
  | some y => cases y <;> simp only [e] <;> exact .refl _

abbrev Post (α β : Type) := Hp → (Nat → Addr → Prop) → (Addr → Prop) → Env → St → Hp → β → α → Prop
def tAt (K : PySem.W.Frag) (cad : Nat → Option Addr) (W : WX) (T : List Nat) (H₀ : Hp) (B : Nat → Addr → Prop) (Z : Addr → Prop) (ρ : Env) (f : M α) (P : Post α β) (σ : St) (H : Hp) (Q : β → Hp → Prop) : Prop :=
  StOk K H₀ B Z ρ σ H ∧ match f ρ with
    | .ok a ρ' => ∀ v H', StOk K H₀ B Z ρ' σ H' → Ev T ρ σ H H' → P H₀ B Z ρ' σ H' v a → Q v H'
    | .ex c ρ' => ∀ cl d H', StOk K H₀ B Z ρ' σ H' → Ev T ρ σ H H' → ExIs cad c cl d H' → W cl d σ H'
    | .bad => False
def tW (K : PySem.W.Frag) (cad : Nat → Option Addr) (W : WX) (T : List Nat) (f : M α) (P : Post α β) : St → Hp → (β → Hp → Prop) → Prop := fun σ H Q => ∃ H₀ B Z ρ, tAt K cad W T H₀ B Z ρ f P σ H Q

theorem tAt.bind {P1 : Post α δ} {P : Post γ β} {f : M α} {g : α → M γ} {Q : β → Hp → Prop} (hT : ∀ j ∈ T1, j ∈ T) (hf : MOk T1 f) (h : tAt K cad W T H₀ B Z ρ (f.bind g) P σ H Q) :
    tAt K cad W T1 H₀ B Z ρ f P1 σ H fun v H1 => ∃ a ρ1, f ρ = .ok a ρ1 ∧ EnvLe T1 ρ ρ1 ∧ Ev T1 ρ σ H H1 ∧ P1 H₀ B Z ρ1 σ H1 v a ∧ tAt K cad W T H₀ B Z ρ1 (g a) P σ H1 Q := by
  obtain ⟨S, h⟩ := h
  refine ⟨S, ?_⟩
  unfold M.bind at h
  cases e : f ρ with
  | bad => rw [e] at h; exact h
  | ex c ρ' =>
    rw [e] at h
    exact fun cl d H' S' ev x => h cl d H' S' (ev.mono hT) x
  | ok a ρ1 =>
    rw [e] at h
    have le := hf.ok e
    refine fun v H1 S1 ev p => ⟨a, ρ1, rfl, le, ev, p, S1, ?_⟩
    have h' : match g a ρ1 with
      | .ok a ρ' => ∀ v H', StOk K H₀ B Z ρ' σ H' → Ev T ρ σ H H' → P H₀ B Z ρ' σ H' v a → Q v H'
      | .ex c ρ' => ∀ cl d H', StOk K H₀ B Z ρ' σ H' → Ev T ρ σ H H' → ExIs cad c cl d H' → W cl d σ H'
      | .bad => False := h
    cases e2 : g a ρ1 with
    | bad => rw [e2] at h'; exact h'
    | ex c ρ' =>
      rw [e2] at h'
      exact fun cl d H' S' ev' x => h' cl d H' S' ((ev.mono hT).trans (le.mono hT) ev') x
    | ok b ρ' =>
      rw [e2] at h'
      exact fun w H' S' ev' p' => h' w H' S' ((ev.mono hT).trans (le.mono hT) ev') p'
theorem tAt.mono {P : Post α β} {f : M α} {Q Q' : β → Hp → Prop} (h : tAt K cad W T H₀ B Z ρ f P σ H Q) (hQ : ∀ v H, Q v H → Q' v H) : tAt K cad W T H₀ B Z ρ f P σ H Q' := by
  obtain ⟨S, h⟩ := h
  refine ⟨S, ?_⟩
  cases e : f ρ with
  | bad => rw [e] at h; exact h
  | ex c ρ' => rw [e] at h; exact h
  | ok a ρ' => rw [e] at h; exact fun v H' a b c => hQ v H' (h v H' a b c)
theorem tAt.s {P : Post α β} {f : M α} {Q : β → Hp → Prop} (h : tAt K cad W T H₀ B Z ρ f P σ H Q) : StOk K H₀ B Z ρ σ H := h.1
/-- a step that changes neither the heap nor a slot's list -/
theorem tAt.go {P : Post γ β} {f : M α} {g : α → M γ} {Q : β → Hp → Prop} {a : α} (h : tAt K cad W T H₀ B Z ρ (f.bind g) P σ H Q) (e : f ρ = .ok a ρ1) (le : EnvLe [] ρ ρ1) (S : StOk K H₀ B Z ρ1 σ H) : tAt K cad W T H₀ B Z ρ1 (g a) P σ H Q := by
  obtain ⟨S0, h⟩ := h
  refine ⟨S, ?_⟩
  have e' : (f.bind g) ρ = g a ρ1 := by unfold M.bind; rw [e]
  rw [e'] at h
  have le' : EnvLe T ρ ρ1 := le.mono fun _ z => absurd z List.not_mem_nil
  cases e2 : g a ρ1 with
  | bad => rw [e2] at h; exact h
  | ex c ρ' => rw [e2] at h; exact fun cl d H' S' ev' x => h cl d H' S' (Ev.refl.trans le' ev') x
  | ok b ρ' => rw [e2] at h; exact fun w H' S' ev' p' => h w H' S' (Ev.refl.trans le' ev') p'
theorem tAt.bad {P : Post γ β} {f : M α} {g : α → M γ} {Q : β → Hp → Prop} (h : tAt K cad W T H₀ B Z ρ (f.bind g) P σ H Q) (e : f ρ = .bad) : False := by
  obtain ⟨_, h⟩ := h
  have e' : (f.bind g) ρ = .bad := by unfold M.bind; rw [e]
  rw [e'] at h; exact h
theorem tAt.ret {P : Post α β} {Q : β → Hp → Prop} {a : α} {w : β} (h : tAt K cad W T H₀ B Z ρ (M.ret a) P σ H Q) (s : Same H H') (p : P H₀ B Z ρ σ H' w a) : Q w H' := h.2 w H' (h.1.same s) (Ev.of_same s) p
/-- the answer is looked at -/
theorem tAt.peek {P : Post γ β} {g : PD → M γ} {Q : β → Hp → Prop} (h : tAt K cad W T H₀ B Z ρ ((peekR x).bind g) P σ H Q) (r : RpV K H₀ (OO Z ρ σ) ρ σ H v x) : ∃ d, peekR x ρ = .ok d ρ ∧ Pk K (OO Z ρ σ) H v d ∧ tAt K cad W T H₀ B Z ρ (g d) P σ H Q := by
  rcases peek_ok h.s r with e | ⟨d, e, p⟩
  · exact (h.bad e).elim
  · exact ⟨d, e, p, h.go e (.refl _) h.s⟩
theorem tAt.peekC {P : Post γ β} {g : PD → M γ} {Q : β → Hp → Prop} (h : tAt K cad W T H₀ B Z ρ ((peekC x).bind g) P σ H Q) (r : RpV K H₀ (OO Z ρ σ) ρ σ H v x) : ∃ d, PkC K (OO Z ρ σ) H v d ∧ tAt K cad W T H₀ B Z ρ (g d) P σ H Q := by
  rcases peekC_ok h.s r with e | ⟨d, e, p⟩
  · exact (h.bad e).elim
  · exact ⟨d, p, h.go e (.refl _) h.s⟩
theorem tAt.freeze {P : Post γ β} {g : PD → M γ} {Q : β → Hp → Prop} (h : tAt K cad W T H₀ B Z ρ ((freeze x).bind g) P σ H Q) (r : RpV K H₀ (OO Z ρ σ) ρ σ H v x) : ∃ d ρ', EnvLe [] ρ ρ' ∧ Rp K (OO Z ρ' σ) H v d ∧ tAt K cad W T H₀ B Z ρ' (g d) P σ H Q := by
  rcases freeze_ok h.s r with e | ⟨d, ρ', e, le, S', p⟩
  · exact (h.bad e).elim
  · exact ⟨d, ρ', le, p, h.go e le S'⟩
theorem tAt.settle {P : Post γ β} {g : Rv → M γ} {Q : β → Hp → Prop} (h : tAt K cad W T H₀ B Z ρ ((settle x).bind g) P σ H Q) (r : RpF K H₀ B Z ρ σ H v x) : ∃ y ρ', EnvLe [] ρ ρ' ∧ RpF K H₀ B Z ρ' σ H v (.v y) ∧ tAt K cad W T H₀ B Z ρ' (g (.v y)) P σ H Q := by
  rcases settle_ok h.s r with e | ⟨d, ρ', e, le, S', p⟩
  · exact (h.bad e).elim
  · exact ⟨d, ρ', le, p, h.go e le S'⟩
theorem tAt.ofO {P : Post γ β} {g : α → M γ} {o : Option α} {Q : β → Hp → Prop} (h : tAt K cad W T H₀ B Z ρ ((M.ofO o).bind g) P σ H Q) : ∃ a, o = some a ∧ tAt K cad W T H₀ B Z ρ (g a) P σ H Q := by
  cases o with
  | none => exact (h.bad rfl).elim
  | some a => exact ⟨a, rfl, h.go rfl (.refl _) h.s⟩
end
end Gn

/-! Gn, part D: the operations on data are the model's. -/
namespace Gn
open PySem PySem.Spec L2
open PyProof.Rows hiding St

/-- an answer, new against H -/
def NwV (K : PySem.W.Frag) (O : Addr → Prop) (H H' : Hp) (v : V) : Vl → Prop
  | .val d => Rp K O H' v d
  | .own xs false => ∃ a vs, v = .ref a ∧ H a = none ∧ H' a = some (.lst vs) ∧ RpL K (OA O a) H' vs xs
  | _ => False
def Tk (O : Addr → Prop) (H : Hp) : Prop := ∀ a, O a → ∃ o, H a = some o
/-- what is wanted of an operation's answer -/
def Ans (K : PySem.W.Frag) (O : Addr → Prop) (H : Hp) (Q : VK) (z : Vl) : Prop := ∀ v H', Same H H' → NwV K O H H' v z → Q v H'
section
variable {K : PySem.W.Frag} {O : Addr → Prop} {H H' : Hp} {Q : VK} {v : V} {d : PD}
theorem Tk.new (t : Tk O H) {p : Addr} (h : H p = none) : ¬ O p := fun q => by
  obtain ⟨o, e⟩ := t p q
  rw [h] at e; cases e
theorem same_new {p : Addr} {o : HO} (h : H p = none) : Same H (upd H p o) := fun b x e => by
  rw [upd_ne (ne_of_none e h)]; exact e
theorem RpL.same {vs : List V} {ds : List PD} (s : Same H H') (r : RpL K O H vs ds) : RpL K O H' vs ds := RpL.mono (fun a o q => ⟨s a o q.1, q.2⟩) ds vs r
theorem Rp.same (s : Same H H') (r : Rp K O H v d) : Rp K O H' v d := Rp.mono (fun a o q => ⟨s a o q.1, q.2⟩) d v r
theorem Ans.tup {vs : List V} {ds : List PD} (h : Ans K O H Q (.val (.tuple ds))) (t : Tk O H) (r : RpL K O H vs ds) : ∀ p, H p = none → Q (.ref p) (upd H p (.tup vs)) := fun p hp =>
  h _ _ (same_new hp) (.tup (.inl ⟨upd_same, t.new hp⟩) (r.same (same_new hp)))
theorem Ans.lst {vs : List V} {ds : List PD} (h : Ans K O H Q (.own ds false)) (r : RpL K O H vs ds) : ∀ p, H p = none → Q (.ref p) (upd H p (.lst vs)) := fun p hp =>
  h _ _ (same_new hp) ⟨p, vs, rfl, hp, upd_same, RpL.mono (fun c o q => ⟨same_new hp c o q.1, fun z => z.elim q.2 (ne_of_none q.1 hp)⟩) _ _ r⟩
theorem Ans.here (h : Ans K O H Q (.val d)) (r : Rp K O H v d) : Q v H := h v H (.refl H) r
theorem Rp.int_inv {i : Int} (h : Rp K O H v (.int i)) : v = .int i := by cases h; rfl
theorem Rp.bl_inv {b : Bool} (h : Rp K O H v (.bool b)) : v = .bl b := by cases h; rfl
theorem Rp.str_inv {x : Str} (h : Rp K O H v (.str x)) : v = .str x := by cases h; rfl
theorem Rp.non_inv (h : Rp K O H v .none) : v = .non := by cases h; rfl
theorem Rp.tup_inv {ds : List PD} (h : Rp K O H v (.tuple ds)) : ∃ a vs, v = .ref a ∧ Tp K O H a vs ∧ RpL K O H vs ds := by
  cases h with
  | tup h1 h2 => exact ⟨_, _, rfl, h1, h2⟩
theorem Rp.lst_inv {ds : List PD} (h : Rp K O H v (.list ds)) : ∃ a vs, v = .ref a ∧ Tr O H a (.lst vs) ∧ RpL K O H vs ds := by
  cases h with
  | lst h1 h2 => exact ⟨_, _, rfl, h1, h2⟩
mutual
theorem Dp.plain : ∀ (d : PD) (v : V), Dp K H v d → d.plain = true
  | .none, _, _ => rfl
  | .bool _, _, _ => rfl
  | .int _, _, _ => rfl
  | .str _, _, _ => rfl
  | .list ds, _, h => by
    cases h with
    | lst _ h2 =>
      simp only [PyData.plain]
      exact DpAll.plain ds _ h2
  | .tuple ds, _, h => by
    cases h with
    | tup _ h2 =>
      simp only [PyData.plain]
      exact DpAll.plain ds _ h2
  | .dict _, _, h => by cases h
theorem DpAll.plain : ∀ (ds : List PD) (vs : List V), DpAll K H vs ds → PyData.plainAll ds = true
  | [], _, _ => rfl
  | d :: ds, _, h => by
    cases h with
    | cons h1 h2 => simp only [PyData.plainAll, Dp.plain d _ h1, DpAll.plain ds _ h2, Bool.and_self]
end
theorem RpL.rep {vs : List V} {ds : List PD} (r : RpL K O H vs ds) : ∀ k : Nat, RpL K O H (List.replicate k vs).flatten (List.replicate k ds).flatten
  | 0 => .nil
  | k + 1 => by
    rw [List.replicate_succ, List.replicate_succ, List.flatten_cons, List.flatten_cons]
    exact r.append (RpL.rep r k)
end

def bopOf : BOp → Operator
  | .add => .Add
  | .sub => .Sub
  | .mul => .Mult
  | .fdiv => .FloorDiv
  | .mod => .Mod
  | .pow => .Pow
/-- two data in, one out -/
def rB (K : PySem.W.Frag) (g : PD → PD → Option Vl) : R2 := fun x y H Q => ∃ O d e z, Tk O H ∧ Pk K O H x d ∧ Pk K O H y e ∧ g d e = some z ∧ Ans K O H Q z
theorem SL_eq : (SL : Nat) = sizeLine := by decide
section
variable {X : Cx}
theorem op_bin (o : BOp) : OpR X (binaryOp (bopOf o)) (rB X.K (binD o)) := by
  intro pins s σ H x y v u Q I rx ry h
  obtain ⟨O, d, e, z, t, hx, hy, hg, q⟩ := h
  unfold binD at hg
  split at hg
  -- + of ints
  · cases hg
    exact op_add pins s σ H x y v u Q I rx ry ⟨_, _, Rp.int_inv hx, Rp.int_inv hy, q.here (.int _)⟩
  -- + of tuples
  · split at hg
    · rename_i hz
      cases hg
      obtain ⟨a, vs, rfl, h1, r1⟩ := Rp.tup_inv hx
      obtain ⟨b, ws, rfl, h2, r2⟩ := Rp.tup_inv hy
      refine op_catA pins s σ H _ _ v u Q I rx ry ⟨a, b, vs, ws, rfl, rfl, h1.sq, h2.sq, by rw [r1.length, r2.length, ← SL_eq]; exact hz, fun e => ?_, fun _ e => ?_, fun _ _ => q.tup t (r1.append r2)⟩
      · subst e
        cases r1
        exact q.here (.tup h2 r2)
      · subst e
        cases r2
        rw [List.append_nil] at q
        exact q.here (.tup h1 r1)
    · cases hg
  -- + of lists
  · split at hg
    · rename_i hz
      cases hg
      obtain ⟨a, vs, rfl, h1, r1⟩ := hx
      obtain ⟨b, ws, rfl, h2, r2⟩ := hy
      exact op_cat pins s σ H _ _ v u Q I rx ry ⟨a, b, vs, ws, rfl, rfl, h1, h2, by rw [r1.length, r2.length, ← SL_eq]; exact hz, q.lst (r1.append r2)⟩
    · cases hg
  -- -
  · cases hg
    exact op_sub pins s σ H x y v u Q I rx ry ⟨_, _, Rp.int_inv hx, Rp.int_inv hy, q.here (.int _)⟩
  -- *
  · split at hg
    · rename_i hz
      cases hg
      refine op_mul pins s σ H x y v u Q I rx ry ⟨_, _, Rp.int_inv hx, Rp.int_inv hy, ?_, q.here (.int _)⟩
      simp only [mulOk, Bool.or_eq_true, Bool.and_eq_true, decide_eq_true_eq] at hz
      exact hz
    · cases hg
  · split at hg
    · rename_i hz
      cases hg
      obtain ⟨a, vs, rfl, h1, r1⟩ := hx
      simp only [Bool.and_eq_true, decide_eq_true_eq] at hz
      exact op_rep pins s σ H _ _ v u Q I rx ry ⟨a, _, vs, rfl, Rp.int_inv hy, h1, hz.1.1, hz.1.2, by rw [r1.length, ← SL_eq]; exact hz.2, q.lst (r1.rep _)⟩
    · cases hg
  · split at hg
    · rename_i hz
      cases hg
      obtain ⟨a, vs, rfl, h1, r1⟩ := Rp.tup_inv hx
      simp only [Bool.and_eq_true, decide_eq_true_eq, Bool.not_eq_true', List.isEmpty_eq_false_iff] at hz
      refine op_repT pins s σ H _ _ v u Q I rx ry ⟨a, _, vs, rfl, Rp.int_inv hy, h1.sq, fun z => ?_, hz.1.1.2, hz.1.2, by rw [r1.length]; exact hz.2, q.tup t (r1.rep _)⟩
      subst z
      cases r1
      exact hz.1.1.1 rfl
    · cases hg
  -- //
  · split at hg
    · rename_i hz
      cases hg
      simp only [Bool.and_eq_true, decide_eq_true_eq] at hz
      exact op_fdivN pins s σ H x y v u Q I rx ry ⟨_, _, Rp.int_inv hx, Rp.int_inv hy, hz, q.here (.int _)⟩
    · cases hg
  · split at hg
    · rename_i hz
      cases hg
      simp only [decide_eq_true_eq] at hz
      exact op_modN pins s σ H x y v u Q I rx ry ⟨_, _, Rp.int_inv hx, Rp.int_inv hy, hz, q.here (.int _)⟩
    · cases hg
  · split at hg
    · rename_i hz
      cases hg
      simp only [Bool.and_eq_true, decide_eq_true_eq] at hz
      exact op_pow pins s σ H x y v u Q I rx ry ⟨_, _, Rp.int_inv hx, Rp.int_inv hy, ⟨hz.1.1, hz.1.2, hz.2⟩, q.here (.int _)⟩
    · cases hg
  · cases hg
end

/-! ### comparisons -/
mutual
theorem ltC_rc : ∀ (da db : PD) (A : Around) (s : Shared) (a b : Value) (as bs : List Addr) (k : Bool), Reads s.heap a da as → Reads s.heap b db bs → da.plain = true → db.plain = true → ltC da db = some k → A.units + min da.depth db.depth < cLine → SeqAt.RcLt A s a b k
  | .none, _, _, _, _, _, _, _, _, _, _, _, _, h, _ => by simp [ltC] at h
  | .bool _, _, _, _, _, _, _, _, _, _, _, _, _, h, _ => by simp [ltC] at h
  | .str _, _, _, _, _, _, _, _, _, _, _, _, _, h, _ => by simp [ltC] at h
  | .dict _, _, _, _, _, _, _, _, _, _, _, _, _, h, _ => by simp [ltC] at h
  | .int x, db, A, s, a, b, as, bs, k, ra, rb, _, _, h, _ => by
    cases db with
    | int y =>
      cases ra
      cases rb
      simp only [ltC, Option.some.injEq] at h
      intro prog w E Q hq
      rw [← h] at hq
      exact P.lt_int hq
    | _ => simp [ltC] at h
  | .list xs, db, A, s, a, b, as, bs, k, ra, rb, ha, hb, h, hu => by
    cases db with
    | list ys =>
      simp only [ltC] at h
      have pa : PyData.plainAll xs = true := by simpa [PyData.plain] using ha
      have pb : PyData.plainAll ys = true := by simpa [PyData.plain] using hb
      cases ra with
      | @list l o vs n _ as₁ h1 h2 h3 h4 =>
        cases rb with
        | @list l' o' vs' n' _ bs₁ k1 k2 k3 k4 =>
          obtain ⟨r, hr, e⟩ := ltL_rc xs ys A.in1 s vs.toList vs'.toList as₁ bs₁ k h4 k4 pa pb h (SeqAt.room_in hu)
          have q := SeqAt.RcLt.lists (A := A) (s := s) (e := SeqAt.pairEq xs ys) (r := r) ⟨_, h1, h2, _, h3⟩ ⟨_, k1, k2, _, k3⟩ (SeqAt.room_here hu) (fun j j1 j2 => ?_) fun j j1 j2 hj => ?_
          · have n1 : vs.size = vs.toList.length := by simp
            have n2 : vs'.size = vs'.toList.length := by simp
            rw [n1, n2, e] at q
            exact q
          · have := SeqAt.eqAt_plainAll xs ys A.in1 s vs.toList vs'.toList _ _ h4 k4 pa pb (SeqAt.room_in hu) j (by simpa using j1) (by simpa using j2)
            simpa using this
          · have := hr j (by simpa using j1) (by simpa using j2) hj
            simpa using this
    | _ => simp [ltC] at h
  | .tuple xs, db, A, s, a, b, as, bs, k, ra, rb, ha, hb, h, hu => by
    cases db with
    | tuple ys =>
      simp only [ltC] at h
      have pa : PyData.plainAll xs = true := by simpa [PyData.plain] using ha
      have pb : PyData.plainAll ys = true := by simpa [PyData.plain] using hb
      cases ra with
      | @tuple l o vs n _ _ h1 h2 h3 h4 =>
        cases rb with
        | @tuple l' o' vs' n' _ _ k1 k2 k3 k4 =>
          obtain ⟨r, hr, e⟩ := ltL_rc xs ys A.in1 s vs.toList vs'.toList _ _ k h4 k4 pa pb h (SeqAt.room_in hu)
          have q := SeqAt.RcLt.tuples (A := A) (s := s) (e := SeqAt.pairEq xs ys) (r := r) ⟨_, h1, h2, _, h3⟩ ⟨_, k1, k2, _, k3⟩ (SeqAt.room_here hu) (fun j j1 j2 => ?_) fun j j1 j2 hj => ?_
          · have n1 : vs.size = vs.toList.length := by simp
            have n2 : vs'.size = vs'.toList.length := by simp
            rw [n1, n2, e] at q
            exact q
          · have := SeqAt.eqAt_plainAll xs ys A.in1 s vs.toList vs'.toList _ _ h4 k4 pa pb (SeqAt.room_in hu) j (by simpa using j1) (by simpa using j2)
            simpa using this
          · have := hr j (by simpa using j1) (by simpa using j2) hj
            simpa using this
    | _ => simp [ltC] at h
theorem ltL_rc : ∀ (xs ys : List PD) (A : Around) (s : Shared) (vs ws : List Value) (as bs : List Addr) (k : Bool), ReadsAll s.heap vs xs as → ReadsAll s.heap ws ys bs → PyData.plainAll xs = true → PyData.plainAll ys = true → ltL xs ys = some k →
    A.units + min (PyData.depthAll xs) (PyData.depthAll ys) < cLine → ∃ r : Nat → Bool, (∀ j (h1 : j < vs.length) (h2 : j < ws.length), SeqAt.pairEq xs ys j = false → SeqAt.RcLt A s vs[j] ws[j] (r j)) ∧
      SeqAt.firstLt (SeqAt.pairEq xs ys) r (decide (vs.length < ws.length)) (List.range (min vs.length ws.length)) = k
  | [], [], A, s, vs, ws, as, bs, k, ra, rb, _, _, h, _ => by
    cases ra
    cases rb
    simp only [ltL, Option.some.injEq] at h
    subst h
    exact ⟨fun _ => false, fun j h1 => absurd h1 (Nat.not_lt_zero _), rfl⟩
  | [], y :: ys, A, s, vs, ws, as, bs, k, ra, rb, _, _, h, _ => by
    cases ra
    cases rb
    simp only [ltL, Option.some.injEq] at h
    subst h
    exact ⟨fun _ => false, fun j h1 => absurd h1 (Nat.not_lt_zero _), by simp [SeqAt.firstLt]⟩
  | x :: xs, [], A, s, vs, ws, as, bs, k, ra, rb, _, _, h, _ => by
    cases ra
    cases rb
    simp only [ltL, Option.some.injEq] at h
    subst h
    exact ⟨fun _ => false, fun j _ h2 => absurd h2 (Nat.not_lt_zero _), by simp [SeqAt.firstLt]⟩
  | x :: xs, y :: ys, A, s, vs, ws, as, bs, k, ra, rb, ha, hb, h, hu => by
    have pa : x.plain = true ∧ PyData.plainAll xs = true := by simpa [PyData.plainAll] using ha
    have pb : y.plain = true ∧ PyData.plainAll ys = true := by simpa [PyData.plainAll] using hb
    simp only [ltL] at h
    cases e1 : ltL xs ys with
    | none => rw [e1] at h; cases h
    | some k1 =>
      rw [e1] at h
      cases ra with
      | @cons v vs' _ _ a1 a2 r rs =>
        cases rb with
        | @cons w ws' _ _ b1 b2 r' rs' =>
          obtain ⟨q, hq, eq⟩ := ltL_rc xs ys A s vs' ws' _ _ k1 rs rs' pa.2 pb.2 e1 (SeqAt.room_tail hu)
          have hd : decide ((v :: vs').length < (w :: ws').length) = decide (vs'.length < ws'.length) := by simp
          have hm : min (v :: vs').length (w :: ws').length = min vs'.length ws'.length + 1 := by simp only [List.length_cons]; omega
          cases hxy : x.eqv y with
          | true =>
            replace h : (if x.eqv y = true then some k1 else ltC x y) = some k := h
            rw [hxy, if_pos rfl] at h
            cases h
            refine ⟨fun j => q (j - 1), fun j h1 h2 hj => ?_, ?_⟩
            · cases j with
              | zero =>
                have : SeqAt.pairEq (x :: xs) (y :: ys) 0 = x.eqv y := rfl
                rw [this, hxy] at hj; cases hj
              | succ j => exact hq j (Nat.lt_of_succ_lt_succ h1) (Nat.lt_of_succ_lt_succ h2) hj
            · rw [hd, hm, List.range_succ_eq_map]
              rw [SeqAt.firstLt_yes (show SeqAt.pairEq (x :: xs) (y :: ys) 0 = true from hxy), PySem.W.firstLt_map]
              exact eq
          | false =>
            replace h : (if x.eqv y = true then some k1 else ltC x y) = some k := h
            rw [hxy, if_neg Bool.false_ne_true] at h
            have q0 := ltC_rc x y A s v w _ _ k r r' pa.1 pb.1 h (SeqAt.room_head hu)
            refine ⟨fun j => match j with | 0 => k | j + 1 => q j, fun j h1 h2 hj => ?_, ?_⟩
            · cases j with
              | zero => exact q0
              | succ j => exact hq j (Nat.lt_of_succ_lt_succ h1) (Nat.lt_of_succ_lt_succ h2) hj
            · rw [hd, hm, List.range_succ_eq_map]
              rw [SeqAt.firstLt_no (show SeqAt.pairEq (x :: xs) (y :: ys) 0 = false from hxy)]
end
def copOf : COp → CmpOp
  | .eq => .Eq
  | .ne => .NotEq
  | .lt => .Lt
  | .le => .LtE
  | .gt => .Gt
  | .ge => .GtE
  | .isN => .Is
  | .notN => .IsNot
  | .isin => .In
  | .notin => .NotIn
/-- two data in, a truth value out -/
def rCm (K : PySem.W.Frag) (g : PD → PD → Option Bool) : R2 := fun x y H Q => ∃ O d e z, Pk K O H x d ∧ Pk K O H y e ∧ g d e = some z ∧ Q (.bl z) H
theorem depth_or {d e : PD} (h : (decide (d.depth ≤ 60) || decide (e.depth ≤ 60)) = true) : min d.depth e.depth ≤ 60 := by
  simp only [Bool.or_eq_true, decide_eq_true_eq] at h
  omega
theorem isNo_eq {K : PySem.W.Frag} {O : Addr → Prop} {H : Hp} {x : V} {d : PD} (hx : Pk K O H x d) : decide (x = V.non) = isNo d := by
  cases d with
  | none => rw [Rp.non_inv hx]; rfl
  | list _ => obtain ⟨a, vs, rfl, _⟩ := hx; rfl
  | _ => cases hx <;> rfl
section
variable {X : Cx}
theorem op_cmpD (o : COp) (hu : X.A.units + 64 < cLine) : OpR X (compareOp (copOf o)) (rCm X.K (cmpD o)) := by
  intro pins s σ H x y v u Q I rx ry h
  obtain ⟨O, d, e, z, hx, hy, hg, q⟩ := h
  have px := Dp.plain _ _ hx.dp
  have py := Dp.plain _ _ hy.dp
  obtain ⟨as, r1⟩ := Dp.reads I d x v hx.dp rx
  obtain ⟨bs, r2⟩ := Dp.reads I e y u hy.dp ry
  have fin : ∀ {b : Bool}, b = z → EP X pins σ Q (.bool b) s := fun {b} h => ⟨.bl z, H, I, by rw [h]; rfl, q⟩
  unfold cmpD at hg
  split at hg
  · unfold eqC at hg
    split at hg
    · rename_i hd
      cases hg
      have := depth_or hd
      exact SeqAt.eq_plain r1 r2 px py (by omega) (fin rfl)
    · cases hg
  · unfold eqC at hg
    split at hg
    · rename_i hd
      cases hg
      have := depth_or hd
      exact SeqAt.ne_plain r1 r2 px py (by omega) (fin rfl)
    · cases hg
  · split at hg
    · rename_i hd
      have := depth_or hd
      exact ltC_rc _ _ X.A s v u as bs z r1 r2 px py hg (by omega) X.prog X.w X.xe _ (fin rfl)
    · cases hg
  · cases hg
    exact op_le pins s σ H x y v u Q I rx ry ⟨_, _, Rp.int_inv hx, Rp.int_inv hy, q⟩
  · cases hg
    exact op_gt pins s σ H x y v u Q I rx ry ⟨_, _, Rp.int_inv hx, Rp.int_inv hy, q⟩
  · cases hg
    exact op_ge pins s σ H x y v u Q I rx ry ⟨_, _, Rp.int_inv hx, Rp.int_inv hy, q⟩
  · cases hg
    have ey := Rp.non_inv hy
    refine op_isN pins s σ H x y v u Q I rx ry ⟨ey, ?_⟩
    rw [isNo_eq hx]; exact q
  · cases hg
    have ey := Rp.non_inv hy
    refine op_notN pins s σ H x y v u Q I rx ry ⟨ey, ?_⟩
    rw [isNo_eq hx]; exact q
  · unfold isinC at hg
    cases e with
    | list ds =>
      simp only [seqOf] at hg
      split at hg
      · rename_i hd
        cases hg
        have hd := of_decide_eq_true hd
        exact SeqAt.in_list_data r2 r1 (by simpa [PyData.plain] using py) px (by omega) (fin rfl)
      · cases hg
    | tuple ds =>
      simp only [seqOf] at hg
      split at hg
      · rename_i hd
        cases hg
        have hd := of_decide_eq_true hd
        exact SeqAt.in_tuple_data r2 r1 (by simpa [PyData.plain] using py) px (by omega) (fin rfl)
      · cases hg
    | _ => simp [seqOf] at hg
  · unfold isinC at hg
    cases e with
    | list ds =>
      simp only [seqOf] at hg
      split at hg
      · rename_i hd
        cases hg
        have hd := of_decide_eq_true hd
        exact SeqAt.notIn_list_data r2 r1 (by simpa [PyData.plain] using py) px (by omega) (fin rfl)
      · cases hg
    | tuple ds =>
      simp only [seqOf] at hg
      split at hg
      · rename_i hd
        cases hg
        have hd := of_decide_eq_true hd
        exact SeqAt.notIn_tuple_data r2 r1 (by simpa [PyData.plain] using py) px (by omega) (fin rfl)
      · cases hg
    | _ => simp [seqOf] at hg
  · cases hg
end
end Gn

/-! Gn, part E: sorting. -/
namespace Gn
open PySem PySem.Spec L2
open PyProof.Rows hiding St
open PySem.W

/-! ### sorted, empty tuples among the items, too -/
section
variable {prog : Program} {w : World} {A : Around} {E : Value → Shared → Prop} {s : Shared}
theorem tup_lt_call {Q : Value → Shared → Prop} {a b : Addr} {us vs : Array Value} {e r : Nat → Bool} (ha : s.heap.IsTuple a us) (hb : s.heap.IsTuple b vs)
    (h1 : ∀ j (x : j < us.size) (y : j < vs.size), SeqAt.EqAt A.in1 s us[j] vs[j] (e j)) (h2 : ∀ j (x : j < us.size) (y : j < vs.size), e j = false → SeqAt.RcLt A.in1 s us[j] vs[j] (r j))
    (q : Q (.bool (SeqAt.firstLt e r (decide (us.size < vs.size)) (List.range (min us.size vs.size)))) s) : wpAny (model prog w) A (call (.builtin "tuple.__lt__") [.ref a, .ref b]) Q E s := by
  obtain ⟨⟨c1, d1, p1, l1⟩, g1, k1, n1, e1⟩ := id ha
  obtain ⟨⟨c2, d2, p2, l2⟩, g2, k2, n2, e2⟩ := id hb
  simp only at k1 e1 k2 e2
  subst k1 e1 k2 e2
  exact call_meets F.slot_tuple_lt ⟨_, g1, rfl⟩ F.entry_tuple_lt (F.args_tuple_lt_2 _ _) (SeqAt.tuple_ltAt a b us vs n1 n2 d1 d2 l1 l2 e r) ⟨g1, g2, h1, h2, q⟩
/-- one tuple against another, asked by the tuples' own < -/
theorem oneLt_tuple {xs : List PD} {db : PD} {a b : Value} {as bs : List Addr} {Q : Bool → Shared → Prop} (ra : Reads s.heap a (.tuple xs) as) (rb : Reads s.heap b db bs) (h : alike (.tuple xs) db = true)
    (hu : A.units + min (PyData.tuple xs).depth db.depth < cLine) (hq : Q (dataLt (.tuple xs) db) s) : wpAny (model prog w) A (oneLt' true a b) Q E s := by
  cases db with
  | tuple ys =>
    have hal : alikeAll xs ys = true := by simpa [alike] using h
    cases ra with
    | @tuple l o vs n _ _ h1 h2 h3 h4 =>
      cases rb with
      | @tuple l' o' vs' n' _ _ k1 k2 k3 k4 =>
        have n1 : vs.size = xs.length := by simpa using SeqAt.ReadsAll.length _ _ _ h4
        have n2 : vs'.size = ys.length := by simpa using SeqAt.ReadsAll.length _ _ _ k4
        rw [dataLt_tuple, ← firstLt_toks xs ys hal, ← n1, ← n2] at hq
        rw [oneLt'_eq, if_pos rfl]
        refine wpAny_bind (wpAny_cRoomFor (SeqAt.room_here hu) ?_)
        refine wpAny_bind (wpAny_callSpecialIfBound?_slot (T := "tuple") ⟨_, h1, h2⟩ F.slot_tuple_lt (tup_lt_call (e := SeqAt.pairEq xs ys) (r := fun j => dataLt (xs.getD j .none) (ys.getD j .none)) ⟨_, h1, h2, _, h3⟩ ⟨_, k1, k2, _, k3⟩ (fun j j1 j2 => ?_) (fun j j1 j2 hj => ?_) ?_))
        · have := eqAt_alikeAll xs ys A.in1 s vs.toList vs'.toList _ _ h4 k4 hal (SeqAt.room_in hu) j (by simpa using j1) (by simpa using j2)
          simpa using this
        · have := rcLt_alikeAll xs ys A.in1 s vs.toList vs'.toList _ _ h4 k4 hal (SeqAt.room_in hu) j (by simpa using j1) (by simpa using j2) hj
          simpa using this
        · exact wpAny_truthy_bool hq
  | _ => exact absurd h (by simp [alike])
/-- one datum against another, whatever the kind -/
theorem oneLt_any {f : Bool} {da db : PD} {a b : Value} {as bs : List Addr} {Q : Bool → Shared → Prop} (ra : Reads s.heap a da as) (rb : Reads s.heap b db bs) (h : alike da db = true) (hn : da ≠ .none)
    (hu : A.units + min da.depth db.depth < cLine) (hq : Q (dataLt da db) s) : wpAny (model prog w) A (oneLt' f a b) Q E s := by
  cases f with
  | false => exact oneLt_alike (fun z => nomatch z) ra rb h hn hu hq
  | true =>
    by_cases ht : ∃ xs, da = .tuple xs
    · obtain ⟨xs, rfl⟩ := ht
      exact oneLt_tuple ra rb h hu hq
    · exact oneLt_alike (fun _ xs z => ht ⟨xs, z⟩) ra rb h hn hu hq
theorem keyLt_gen (x y : Value) : keyLt' general' x y = oneLt' false x y := rfl
/-- what a value's first item is found to be -/
def FirstIs (h : Heap) (v : Value) (o : Option Value) : Prop := ∃ (a : Addr) (ob : Obj) (xs : Array Value) (n : Nat), v = .ref a ∧ h.get? a = some ob ∧ ob.cls = .type "tuple" ∧ ob.data = .seq xs n ∧ o = xs[0]?
theorem first_at {M : Model} {v : Value} {o : Option Value} {Q : Option Value → Shared → Prop} (f : FirstIs s.heap v o) (h : Q o s) : wpAny M A (firstOfTuple' v) Q E s := by
  obtain ⟨a, ob, xs, n, rfl, ho, hc, hd, rfl⟩ := f
  rw [kas_first_eq]
  refine wpAny_bind (Looks.here (show Looks M s.heap (typeOf (.ref a)) ob.cls from (Looks.ld ho).andThen .now) ?_)
  rw [hc, if_neg (by first | decide | simp)]
  exact wpAny_bind (listItems_at ho hd (wpAny_pure h))
theorem firsts_at {M : Model} : ∀ {vs : List Value} {os : List (Option Value)} {Q : List (Option Value) → Shared → Prop}, EachIs (FirstIs s.heap) vs os → Q os s → wpAny M A (vs.mapM firstOfTuple') Q E s
  | _, _, _, .nil, h => wpAny_pure h
  | _, _, Q, .cons f t, h => by
    rw [List.mapM_cons]
    exact wpAny_bind (first_at f (wpAny_bind (firsts_at (Q := fun bs s' => wpAny M A (pure (_ :: bs)) Q E s') t (wpAny_pure h))))
/-- the kind of keys of tuples of which one is empty -/
theorem kind_empty {vs : List Value} {os : List (Option Value)} {Q : SortKind → Shared → Prop} (f : EachIs (FirstIs s.heap) vs os) (he : none ∈ os) (hT : ∀ v ∈ vs, Looks (model prog w) s.heap (typeOf v) (.type "tuple")) (h : Q (if ((os.toArray[0]?).bind id).isSome = true then general' else oneType') s) :
    wpAny (model prog w) A (keyKind' vs.toArray) Q E s := by
  rw [keyKind'_eq, List.mapM_toArray, map_eq_pure_bind]
  refine wpAny_bind (wpAny_bind (firsts_at f (wpAny_pure ?_)))
  have hall : ¬ (os.toArray.all fun x => x.isSome) = true := by
    simp only [List.all_toArray, List.all_eq_true]
    intro h
    exact absurd (h _ he) (by simp)
  rw [if_neg hall]
  by_cases h0 : ((os.toArray[0]?).bind id).isSome = true
  · rw [if_pos h0] at h ⊢
    exact wpAny_pure h
  · rw [if_neg h0] at h ⊢
    rw [oneTypeOnly'_eq, List.mapM_toArray, map_eq_pure_bind]
    refine wpAny_bind (wpAny_bind (wpAny_bind (kas_mapM (r := Value.type "tuple") _ (fun v hv Q' hq => (hT v hv).here hq) (wpAny_pure ?_))))
    have e1 : ((List.map (fun _ => Value.type "tuple") vs).toArray.all fun x => x == Value.type "tuple") = true := by
      simp only [List.all_toArray, List.all_map, List.all_eq_true]
      intro _ _
      rfl
    cases vs with
    | nil =>
      cases f
      cases he
    | cons v r =>
      have e0 : (List.map (fun _ => Value.type "tuple") (v :: r)).toArray[0]? = some (Value.type "tuple") := by simp
      rw [e0]
      simp only [e1, if_true]
      exact wpAny_pure (wpAny_pure h)
theorem firsts_of_data {h : Heap} : ∀ {vs : List Value} {ds : List PD}, EachIs (fun v d => ∃ as, Reads h v d as) vs ds → (∀ d ∈ ds, ∃ xs, d = .tuple xs) → ∃ os, EachIs (FirstIs h) vs os ∧ (.tuple [] ∈ ds → none ∈ os)
  | _, _, .nil, _ => ⟨[], .nil, fun z => nomatch z⟩
  | _, _, .cons (b := d) ⟨as, r⟩ t, ht => by
    obtain ⟨os, h1, h2⟩ := firsts_of_data t fun d hd => ht d (List.mem_cons_of_mem _ hd)
    obtain ⟨xs, rfl⟩ := ht d (List.mem_cons_self ..)
    cases r with
    | @tuple a o vs n _ _ ho hc hd hr =>
      refine ⟨vs[0]? :: os, .cons ⟨a, o, vs, n, rfl, ho, hc, hd, rfl⟩ h1, fun hm => ?_⟩
      rcases List.mem_cons.mp hm with e | hm
      · cases e
        have : vs.toList = [] := by
          have := SeqAt.ReadsAll.length _ _ _ hr
          exact List.eq_nil_of_length_eq_zero this
        have e0 : vs[0]? = none := by
          rw [← Array.getElem?_toList, this]; rfl
        rw [e0]; exact List.mem_cons_self ..
      · exact List.mem_cons_of_mem _ (h2 hm)
theorem sorts_data {vs : List Value} {ds : List PD} (e : EachIs (fun v d => ∃ as, Reads s.heap v d as) vs ds) (hal : AllAlike ds) (hn : ∀ d ∈ ds, d ≠ .none) (hu : ∀ d, d ∈ ds → A.units + d.depth < cLine) : SortsAt prog w A s (dataKind s.heap ds) vs := by
  by_cases ht : ∃ d ∈ ds, ∃ xs, d = .tuple xs
  · have all : ∀ d ∈ ds, ∃ xs, d = .tuple xs := by
      obtain ⟨d0, h0, xs0, rfl⟩ := ht
      intro d hd
      have := hal d hd _ h0
      cases d <;> first | exact ⟨_, rfl⟩ | exact absurd this (by simp [alike])
    by_cases he : .tuple [] ∈ ds
    · have room : ∀ {d d' : PD}, d ∈ ds → A.units + min d.depth d'.depth < cLine := fun {d d'} hd => Nat.lt_of_le_of_lt (Nat.add_le_add_left (Nat.min_le_left _ _) _) (hu d hd)
      refine ⟨fun v hv => ?_, ?_⟩
      · obtain ⟨d, hd, as, r⟩ := e.left v hv
        exact ⟨_, dataKind_some hal hd r⟩
      · obtain ⟨os, f, hne⟩ := firsts_of_data e all
        have look : ∀ v ∈ vs, Looks (model prog w) s.heap (typeOf v) (.type "tuple") := fun v hv => by
          obtain ⟨d, hd, as, r⟩ := e.left v hv
          obtain ⟨xs, rfl⟩ := all d hd
          exact looks_reads r
        refine ⟨if ((os.toArray[0]?).bind id).isSome = true then general' else oneType', fun E x y a b Q ha hb hq => ?_, fun h2 E Q hq => kind_empty f (hne he) look hq⟩
        obtain ⟨d, as, hd, ra, rfl⟩ := dataKind_inv ha
        obtain ⟨d', as', hd', rb, rfl⟩ := dataKind_inv hb
        split
        · rw [keyLt_gen]
          exact oneLt_any ra rb (hal d hd d' hd') (hn d hd) (room hd) hq
        · rw [keyLt'_oneType]
          exact oneLt_any ra rb (hal d hd d' hd') (hn d hd) (room hd) hq
    · refine SortsAt.data e hal (.inl fun d hd => ?_) hu
      obtain ⟨xs, rfl⟩ := all d hd
      cases xs with
      | nil => exact absurd hd he
      | cons x r => exact ⟨x, r, rfl⟩
  · exact SortsAt.data e hal (.inr fun d hd => ⟨hn d hd, fun xs z => ht ⟨d, hd, xs, z⟩⟩) hu
end

/-! ### the built-in calls -/
def PkL (K : PySem.W.Frag) (O : Addr → Prop) (H : Hp) : List V → List PD → Prop
  | [], [] => True
  | v :: vs, d :: ds => Pk K O H v d ∧ PkL K O H vs ds
  | _, _ => False
def biC : Bi → Value
  | .abs => .builtin "abs"
  | .all => .builtin "all"
  | .any => .builtin "any"
  | .bool => .type "bool"
  | .int => .type "int"
  | .len => .builtin "len"
  | .list => .type "list"
  | .tuple => .type "tuple"
  | .max1 => .builtin "max"
  | .max2 => .builtin "max"
  | .min1 => .builtin "min"
  | .min2 => .builtin "min"
  | .sorted => .builtin "sorted"
  | .sortedSet => .none
  | .lenSet => .none
  | .sum => .builtin "sum"
def rBi (K : PySem.W.Frag) (g : List PD → Option Vl) : List V → Hp → VK → Prop := fun xs H Q => ∃ O ds z, Tk O H ∧ PkL K O H xs ds ∧ g ds = some z ∧ Ans K O H Q z
section
variable {K : PySem.W.Frag} {O : Addr → Prop} {H : Hp} {X : Cx}
theorem PkL.one {xs : List V} {d : PD} (h : PkL K O H xs [d]) : ∃ x, xs = [x] ∧ Pk K O H x d := by
  match xs, h with
  | [x], h => exact ⟨x, rfl, h.1⟩
  | _ :: _ :: _, h => exact h.2.elim
theorem PkL.two {xs : List V} {d e : PD} (h : PkL K O H xs [d, e]) : ∃ x y, xs = [x, y] ∧ Pk K O H x d ∧ Pk K O H y e := by
  match xs, h with
  | [x, y], h => exact ⟨x, y, rfl, h.1, h.2.1⟩
  | [_], h => exact h.2.elim
  | _ :: _ :: _ :: _, h => exact h.2.2.elim
theorem Pk.sq {x : V} {ds : List PD} (h : Pk K O H x (.list ds)) : ∃ a vs, x = .ref a ∧ SqL K H a vs ∧ RpL K O H vs ds := by
  obtain ⟨a, vs, rfl, h1, h2⟩ := h
  exact ⟨a, vs, rfl, .inl (.inl h1), h2⟩
theorem RpL.bools : ∀ {vs : List V} {ds : List PD} {bs : List Bool}, RpL K O H vs ds → boolsD ds = some bs → vs = bs.map V.bl
  | _, _, _, .nil, e => by
    cases e; rfl
  | _, .bool b :: ds, _, .cons r t, e => by
    cases r
    simp only [boolsD] at e
    cases e2 : boolsD ds with
    | none => rw [e2] at e; cases e
    | some bs => rw [e2] at e; cases e; rw [RpL.bools t e2]; rfl
  | _, .none :: ds, _, .cons r t, e => by cases e
  | _, .int _ :: ds, _, .cons r t, e => by cases e
  | _, .str _ :: ds, _, .cons r t, e => by cases e
  | _, .list _ :: ds, _, .cons r t, e => by cases e
  | _, .tuple _ :: ds, _, .cons r t, e => by cases e
  | _, .dict _ :: ds, _, .cons r t, e => by cases e
/-- what is told of a value and its datum -/
def RV (K : PySem.W.Frag) (O : Addr → Prop) (H : Hp) (v : Value) (d : PD) : Prop := ∃ x, RelV x v ∧ Rp K O H x d
theorem RV.each : ∀ {vs : List V} {ds : List PD} {us : List Value}, RpL K O H vs ds → Vals vs us → EachIs (RV K O H) us ds
  | _, _, _, .nil, .nil => .nil
  | _, _, _, .cons r t, .cons r' t' => .cons ⟨_, r', r⟩ (RV.each t t')
theorem RV.back : ∀ {us : List Value} {ds : List PD}, EachIs (RV K O H) us ds → ∃ vs, Vals vs us ∧ RpL K O H vs ds
  | _, _, .nil => ⟨[], .nil, .nil⟩
  | _, _, .cons ⟨x, r1, r2⟩ t => by
    obtain ⟨vs, h1, h2⟩ := RV.back t
    exact ⟨x :: vs, .cons r1 h1, .cons r2 h2⟩
theorem cmpAll_use {ds : List PD} (h : cmpAll ds = true) : AllAlike ds ∧ (∀ d ∈ ds, d ≠ .none) ∧ ∀ d ∈ ds, d.depth ≤ 60 := by
  simp only [cmpAll, List.all_eq_true, Bool.and_eq_true, decide_eq_true_eq, Bool.not_eq_true'] at h
  refine ⟨fun d hd e he => (h d hd).2 e he, fun d hd e => ?_, fun d hd => (h d hd).1.1⟩
  subst e
  exact absurd (h _ hd).1.2 (by simp [isNo])
theorem cr_bi (b : Bi) (nb : b ≠ .sortedSet) (hc : X.calm = true) (hu : X.A.units + 64 < cLine) : CallR X (biC b) (rBi X.K (biD b)) := by
  intro pins s σ H xs us Q I r h
  obtain ⟨O, ds, z, t, hx, hg, q⟩ := h
  unfold biD at hg
  split at hg
  -- abs
  · cases hg
    obtain ⟨x, rfl, p⟩ := hx.one
    exact call_abs pins s σ H _ us Q I r ⟨_, by rw [Rp.int_inv p], q.here (.int _)⟩
  -- all
  · rename_i ds
    cases e : boolsD ds with
    | none => rw [e] at hg; cases hg
    | some bs =>
      rw [e] at hg; cases hg
      obtain ⟨x, rfl, p⟩ := hx.one
      obtain ⟨a, vs, rfl, h1, h2⟩ := Pk.sq p
      rw [h2.bools e] at h1
      exact cr_all hc pins s σ H _ us Q I r ⟨a, bs, rfl, h1, q.here (.bl _)⟩
  · rename_i ds
    cases e : boolsD ds with
    | none => rw [e] at hg; cases hg
    | some bs =>
      rw [e] at hg; cases hg
      obtain ⟨x, rfl, p⟩ := hx.one
      obtain ⟨a, vs, rfl, h1, h2⟩ := Pk.sq p
      rw [h2.bools e] at h1
      exact cr_any hc pins s σ H _ us Q I r ⟨a, bs, rfl, h1, q.here (.bl _)⟩
  -- int
  · cases hg
    obtain ⟨x, rfl, p⟩ := hx.one
    exact call_int1 pins s σ H _ us Q I r (.inl ⟨_, by rw [Rp.int_inv p], q.here (.int _)⟩)
  · cases hg
    obtain ⟨x, rfl, p⟩ := hx.one
    exact call_int1 pins s σ H _ us Q I r (.inr ⟨_, by rw [Rp.bl_inv p], q.here (.int _)⟩)
  -- len
  · cases hg
    obtain ⟨x, rfl, p⟩ := hx.one
    obtain ⟨a, vs, rfl, h1, h2⟩ := Pk.sq p
    rw [← h2.length] at q
    exact call_len_seq pins s σ H _ us Q I r ⟨a, vs, rfl, .inl h1, q.here (.int _)⟩
  · cases hg
    obtain ⟨x, rfl, p⟩ := hx.one
    obtain ⟨a, vs, rfl, h1, h2⟩ := Rp.tup_inv p
    rw [← h2.length] at q
    exact call_len_seq pins s σ H _ us Q I r ⟨a, vs, rfl, .inr h1.sq, q.here (.int _)⟩
  -- list
  · cases hg
    obtain ⟨x, rfl, p⟩ := hx.one
    obtain ⟨a, vs, rfl, h1, h2⟩ := Pk.sq p
    exact call_list_of pins s σ H _ us Q I r ⟨a, vs, rfl, .inl h1, q.lst h2⟩
  · cases hg
    obtain ⟨x, rfl, p⟩ := hx.one
    obtain ⟨a, vs, rfl, h1, h2⟩ := Rp.tup_inv p
    exact call_list_of pins s σ H _ us Q I r ⟨a, vs, rfl, .inr h1.sq, q.lst h2⟩
  -- tuple
  · cases hg
    obtain ⟨x, rfl, p⟩ := hx.one
    obtain ⟨a, vs, rfl, h1, h2⟩ := Pk.sq p
    exact call_tuple_of pins s σ H _ us Q I r ⟨a, vs, rfl, .inl ⟨h1, q.tup t h2⟩⟩
  · cases hg
    obtain ⟨x, rfl, p⟩ := hx.one
    obtain ⟨a, vs, rfl, h1, h2⟩ := Rp.tup_inv p
    exact call_tuple_of pins s σ H _ us Q I r ⟨a, vs, rfl, .inr ⟨h1.sq, q.here (.tup h1 h2)⟩⟩
  -- sorted
  · rename_i ds
    unfold sortD at hg
    split at hg
    · rename_i hz
      rw [isort_eq hz] at hg
      cases hg
      obtain ⟨al, nn, dp⟩ := cmpAll_use hz
      obtain ⟨x, rfl, p⟩ := hx.one
      obtain ⟨a, vs, rfl, h1, h2⟩ := Pk.sq p
      obtain ⟨its, rv, pl, hs⟩ := I.list h1
      rw [Vals.ref1 r]
      have er : EachIs (fun v d => ∃ as, Reads (sortingHeap (copyHeap s.heap its) (s.heap.objs.size + 1) its) v d as) its ds := (RV.each h2 rv).mono fun u d ⟨x, q1, q2⟩ => by
        obtain ⟨as, q3⟩ := Dp.reads I d x u q2.dp q1
        exact ⟨as, PyProof.Rows.Reads.keeps (fun _ _ => sorting_copy_old) q3⟩
      have sa := sorts_data (prog := X.prog) (w := X.w) (A := X.A.in1.in1) (s := { s with heap := sortingHeap (copyHeap s.heap its) (s.heap.objs.size + 1) its }) er al nn fun d hd => by
        have := dp d hd
        show X.A.units + 1 + 1 + d.depth < cLine
        omega
      refine sorted_vals pl.isList sa (by rw [← rv.length]; exact hs) ?_
      have ej : EachIs (RV X.K O H) (sortVals (dataKind (sortingHeap (copyHeap s.heap its) (s.heap.objs.size + 1) its) ds) false its its) (sortL ds) := by
        have := sortVals_data (enc := id) (bs := ds) false (RV.each h2 rv) er (by rw [List.map_id]; exact al)
        rw [List.map_id] at this
        exact this
      obtain ⟨ws, k1, k2⟩ := RV.back ej
      obtain ⟨ep, he'⟩ := PyProof.Rows.sortedAll_at s.heap its (sortVals (dataKind (sortingHeap (copyHeap s.heap its) (s.heap.objs.size + 1) its) ds) false its its).toArray
      have hn : H (s.heap.objs.size + 1) = none := I.hok.fresh (Nat.le_succ _)
      refine ⟨.ref _, upd H (s.heap.objs.size + 1) (.lst ws), I.laid (t' := s.toks) (fun _ _ => PyProof.Rows.sortedAll_old) (Nat.le_succ _) ⟨?_, _, ep, k1, he'⟩, rfl, q.lst k2 _ hn⟩
      rw [k1.length, sortVals_length false rfl, ← rv.length]; exact hs
    · cases hg
  -- max, min
  · cases hg
    obtain ⟨x, y, rfl, p1, p2⟩ := hx.two
    exact call_max2 hc pins s σ H _ us Q I r ⟨_, _, by rw [Rp.int_inv p1, Rp.int_inv p2], q.here (.int _)⟩
  · cases hg
    obtain ⟨x, y, rfl, p1, p2⟩ := hx.two
    exact call_min2 hc pins s σ H _ us Q I r ⟨_, _, by rw [Rp.int_inv p1, Rp.int_inv p2], q.here (.int _)⟩
  · exact absurd rfl nb
  · cases hg
end
end Gn

/-! Gn, part F: expressions. -/
namespace Gn
open PySem PySem.Spec L2
open PyProof.Rows hiding St

section
variable {X : Cx} {cad : Nat → Option Addr} {W : WX} {T T1 : List Nat}
/-- e is read as f -/
def DE (X : Cx) (cad : Nat → Option Addr) (W : WX) (T : List Nat) (e : Expr) (f : M Rv) : Prop := MOk T f ∧ PE X e (tW X.K cad W T f (RpF X.K))
def PB : Post Bool Bool := fun _ _ _ _ _ _ b k => b = k
/-- e as a test is read as f -/
def DT (X : Cx) (cad : Nat → Option Addr) (W : WX) (T : List Nat) (e : Expr) (f : M Bool) : Prop := MOk T f ∧ PT X e (tW X.K cad W T f PB) ∧ ∀ op es pos, e = .BoolOp op es pos → PW X e (tW X.K cad W T f PB)
/-- the arguments es are read as f -/
def DA {α : Type} (X : Cx) (cad : Nat → Option Addr) (W : WX) (T : List Nat) (es : List Expr) (f : M α) (P : Post α (List V)) : Prop := MOk T f ∧ PA X es (tW X.K cad W T f P)

theorem pe_of {e : Expr} {t t' : TE} (h : PE X e t) (m : ∀ σ H Q, t' σ H Q → t σ H Q) : PE X e t' := ⟨fun pins s σ H Q I hw => h.run pins s σ H Q I (m σ H Q hw)⟩
theorem pt_of {e : Expr} {t t' : TT} (h : PT X e t) (m : ∀ σ H Q, t' σ H Q → t σ H Q) : PT X e t' := ⟨fun pins s σ H Q I hw => h.run pins s σ H Q I (m σ H Q hw)⟩
theorem pw_of {e : Expr} {t t' : TT} (h : PW X e t) (m : ∀ σ H Q, t' σ H Q → t σ H Q) : PW X e t' := ⟨fun wh pins s σ H Q I hw => h.run wh pins s σ H Q I (m σ H Q hw)⟩
theorem pa_of {e : List Expr} {t t' : TA} (h : PA X e t) (m : ∀ σ H Q, t' σ H Q → t σ H Q) : PA X e t' := ⟨fun p pins s σ H Q I hw => h.run p pins s σ H Q I (m σ H Q hw)⟩

section
variable {α β γ δ : Type} {K : PySem.W.Frag} {H₀ : Hp} {B : Nat → Addr → Prop} {Z : Addr → Prop} {ρ : Env} {σ : St} {H H' H1 : Hp}
/-- one step of a reading is another's reading -/
theorem tAt.to {P1 : Post α δ} {P : Post γ β} {f : M α} {g : α → M γ} {Q : β → Hp → Prop} {Q1 : δ → Hp → Prop} (h : tAt K cad W T H₀ B Z ρ (f.bind g) P σ H Q) (hf : MOk T f)
    (k : ∀ a ρ1 v H1, EnvLe T ρ ρ1 → Ev T ρ σ H H1 → P1 H₀ B Z ρ1 σ H1 v a → tAt K cad W T H₀ B Z ρ1 (g a) P σ H1 Q → Q1 v H1) : tW K cad W T f P1 σ H Q1 :=
  ⟨H₀, B, Z, ρ, (h.bind (P1 := P1) (fun _ z => z) hf).mono fun v H1 ⟨a, ρ1, _, le, ev, p, q⟩ => k a ρ1 v H1 le ev p q⟩
theorem tAt.tk {P : Post γ β} {g : M γ} {Q : β → Hp → Prop} (h : tAt K cad W T H₀ B Z ρ g P σ H Q) : Tk (OO Z ρ σ) H := fun _ z => h.s.tracked z
/-- an operation's answer -/
theorem tAt.ans {Q : VK} {z : Vl} (h : tAt K cad W T H₀ B Z ρ (M.ret (.v z)) (RpF K) σ H Q) : Ans K (OO Z ρ σ) H Q z := fun v H' s n => by
  refine h.ret s ?_
  match z, n with
  | .val d, n => exact ⟨n, trivial⟩
  | .own xs false, ⟨a, vs, e, h1, h2, h3⟩ => exact ⟨⟨a, vs, e, h2, h3, h.s.fresh h1, h.s.fresh₀ h1⟩, fun c ec => by
      rw [e] at ec; cases ec
      exact h.s.addF s h1 ⟨_, h2⟩⟩
theorem tAt.val {Q : VK} {d : PD} {v : V} (h : tAt K cad W T H₀ B Z ρ (M.ret (.v (.val d))) (RpF K) σ H Q) (r : Rp K (OO Z ρ σ) H v d) : Q v H := h.ret (.refl H) ⟨r, trivial⟩
end

theorem DE.mono {e : Expr} {f : M Rv} (hT : ∀ i ∈ T1, i ∈ T) (h : DE X cad W T1 e f) : DE X cad W T e f := by
  refine ⟨h.1.mono hT, pe_of h.2 fun σ H Q ⟨H₀, B, Z, ρ, S, q⟩ => ⟨H₀, B, Z, ρ, S, ?_⟩⟩
  cases e1 : f ρ with
  | ok a ρ' => rw [e1] at q; exact fun v H' s ev p => q v H' s (ev.mono hT) p
  | ex c ρ' => rw [e1] at q; exact fun cl d H' s ev x => q cl d H' s (ev.mono hT) x
  | bad => rw [e1] at q; exact q

/-! ### names, constants -/
theorem DE.var {i : Nat} {x : Str} {pos : Pos} (hN : X.N[i]? = some x) (hv : Vis X.env.scope x) (hd : (x == ("__debug__" : Str)) = false) (hcd : (x == ("__classdict__" : Str)) = false) : DE X cad W T (.Name x pos) (readV i) := by
  refine ⟨.readV, pe_of (pe_var hN hv hd hcd) fun σ H Q ⟨H₀, B, Z, ρ, S, h⟩ => ?_⟩
  unfold readV at h
  cases e : getS ρ i with
  | none => rw [e] at h; exact h.elim
  | some y =>
    obtain ⟨v, e1, r⟩ := S.slot i y e
    refine ⟨v, e1, ?_⟩
    cases y with
    | val d => rw [e] at h; exact h v H S .refl ⟨r, trivial⟩
    | own xs b => rw [e] at h; exact h v H S .refl ⟨e1, trivial⟩
    | dic kvs b => exact r.elim
    | lok xs => rw [e] at h; exact h v H S .refl ⟨e1, trivial⟩
theorem DE.kNone {j pos} : DE X cad W T (.Constant .none j pos) (M.ret (.v (.val .none))) := ⟨.ret, pe_of pe_non fun σ H Q ⟨H₀, B, Z, ρ, h⟩ => h.val .non⟩
theorem DE.kBool {b j pos} : DE X cad W T (.Constant (.bool b) j pos) (M.ret (.v (.val (.bool b)))) := ⟨.ret, pe_of pe_bl fun σ H Q ⟨H₀, B, Z, ρ, h⟩ => h.val (.bl b)⟩
theorem DE.kInt {i j pos} : DE X cad W T (.Constant (.int i) j pos) (M.ret (.v (.val (.int i)))) := ⟨.ret, pe_of pe_int fun σ H Q ⟨H₀, B, Z, ρ, h⟩ => h.val (.int i)⟩
theorem DE.kStr {x j pos} : DE X cad W T (.Constant (.str x) j pos) (M.ret (.v (.val (.str x)))) := ⟨.ret, pe_of pe_str fun σ H Q ⟨H₀, B, Z, ρ, h⟩ => h.val (.str x)⟩

/-! ### operators -/
theorem DE.bin {a b : Expr} {f g : M Rv} {o : BOp} {pos : Pos} (ha : DE X cad W T a f) (hb : DE X cad W T b g) :
    DE X cad W T (.BinOp a (bopOf o) b pos) (f.bind fun x => g.bind fun y => (peekR x).bind fun d => (peekR y).bind fun e => (M.ofO (binD o d e)).bind fun z => M.ret (.v z)) := by
  refine ⟨.bind ha.1 fun x => .bind hb.1 fun y => .bind .peek fun d => .bind .peek fun e => .bind .ofO fun z => .ret, pe_of (pe_op (op_bin o) ha.2 hb.2) fun σ H Q ⟨H₀, B, Z, ρ, h⟩ => ?_⟩
  refine h.to ha.1 fun x ρ1 v H1 le1 ev1 ⟨p1, sp1⟩ h1 => ?_
  refine h1.to hb.1 fun y ρ2 w H2 le2 ev2 ⟨p2, sp2⟩ h2 => ?_
  obtain ⟨d, _, q1, h3⟩ := h2.peek (p1.step le2 ev2)
  obtain ⟨e, _, q2, h4⟩ := h3.peek p2
  obtain ⟨z, ez, h5⟩ := h4.ofO
  exact ⟨_, d, e, z, h5.tk, q1, q2, ez, h5.ans⟩
theorem DE.cmp {a b : Expr} {f g : M Rv} {o : COp} {pos : Pos} (hu : X.A.units + 64 < cLine) (hm : behindInMarks (copOf o) b = false) (ha : DE X cad W T a f) (hb : DE X cad W T b g) :
    DE X cad W T (.Compare a [copOf o] [b] pos) (f.bind fun x => g.bind fun y => (peekR x).bind fun d => (peekR y).bind fun e => (M.ofO (cmpD o d e)).bind fun z => M.ret (.v (.val (.bool z)))) := by
  refine ⟨.bind ha.1 fun x => .bind hb.1 fun y => .bind .peek fun d => .bind .peek fun e => .bind .ofO fun z => .ret, pe_of (pe_cmpR (op_cmpD o hu) ha.2 hb.2 hm) fun σ H Q ⟨H₀, B, Z, ρ, h⟩ => ?_⟩
  refine h.to ha.1 fun x ρ1 v H1 le1 ev1 ⟨p1, sp1⟩ h1 => ?_
  refine h1.to hb.1 fun y ρ2 w H2 le2 ev2 ⟨p2, sp2⟩ h2 => ?_
  obtain ⟨d, _, q1, h3⟩ := h2.peek (p1.step le2 ev2)
  obtain ⟨e, _, q2, h4⟩ := h3.peek p2
  obtain ⟨z, ez, h5⟩ := h4.ofO
  exact ⟨_, d, e, z, q1, q2, ez, h5.val (.bl z)⟩
theorem DE.cmp2 {a b c : Expr} {f g k : M Rv} {o1 o2 : COp} {pos : Pos} (hu : X.A.units + 64 < cLine) (hm : lastMarks [copOf o1, copOf o2] [b, c] = false) (ha : DE X cad W T a f) (hb : DE X cad W T b g) (hc : DE X cad W T c k) :
    DE X cad W T (.Compare a [copOf o1, copOf o2] [b, c] pos) (f.bind fun x => g.bind fun y => (freeze y).bind fun e => (peekR x).bind fun d => (M.ofO (cmpD o1 d e)).bind fun z =>
      if z then k.bind fun w => (peekR w).bind fun f => (M.ofO (cmpD o2 e f)).bind fun z => M.ret (.v (.val (.bool z))) else M.ret (.v (.val (.bool false)))) := by
  refine ⟨.bind ha.1 fun x => .bind hb.1 fun y => .bind .freeze fun e => .bind .peek fun d => .bind .ofO fun z => .ite (.bind hc.1 fun w => .bind .peek fun _ => .bind .ofO fun _ => .ret) .ret,
    pe_of (pe_chain (op_cmpD o1 hu) (op_cmpD o2 hu) ha.2 hb.2 hc.2 hm) fun σ H Q ⟨H₀, B, Z, ρ, h⟩ => ?_⟩
  refine h.to ha.1 fun x ρ1 v H1 le1 ev1 ⟨p1, sp1⟩ h1 => ?_
  refine h1.to hb.1 fun y ρ2 w H2 le2 ev2 ⟨p2, sp2⟩ h2 => ?_
  obtain ⟨e, ρ3, le3, q2, h3⟩ := h2.freeze p2
  obtain ⟨d, _, q1, h4⟩ := h3.peek ((p1.step le2 ev2).step (le3.mono fun _ z => absurd z List.not_mem_nil) (Ev.refl (T := T)))
  obtain ⟨z, ez, h5⟩ := h4.ofO
  refine ⟨_, d, e, z, q1, q2.pk, ez, z, rfl, ?_⟩
  cases z with
  | false => exact h5.val (.bl false)
  | true =>
    rw [if_pos rfl] at h5 ⊢
    refine h5.to hc.1 fun u ρ4 r H4 le4 ev4 ⟨p4, sp4⟩ h6 => ?_
    obtain ⟨d', _, q4, h7⟩ := h6.peek p4
    obtain ⟨z', ez', h8⟩ := h7.ofO
    exact ⟨_, e, d', z', (q2.step le4 ev4).pk, q4, ez', h8.val (.bl z')⟩
theorem TruV.of {K : PySem.W.Frag} {O : Addr → Prop} {H : Hp} {x : V} {d : PD} {k : Bool} (h : Pk K O H x d) (e : truD d = some k) : TruV K x H k := by
  cases d with
  | none => cases e; rw [Rp.non_inv h]; exact rfl
  | bool b => cases e; rw [Rp.bl_inv h]; exact rfl
  | int i => cases e; rw [Rp.int_inv h]; exact rfl
  | str s =>
    simp only [truD] at e
    split at e
    · rename_i hz
      cases e
      rw [Rp.str_inv h]
      exact ⟨by rw [← SL_eq]; exact hz, rfl⟩
    · cases e
  | list xs =>
    cases e
    obtain ⟨a, vs, rfl, h1, h2⟩ := h
    refine .inl ⟨vs, .inl (.inl h1), ?_⟩
    cases h2 <;> rfl
  | tuple xs =>
    cases e
    obtain ⟨a, vs, rfl, h1, h2⟩ := Rp.tup_inv h
    refine .inr (.inl ⟨vs, h1.sq, ?_⟩)
    cases h2 <;> rfl
  | dict _ => cases e
theorem DE.neg {a : Expr} {f : M Rv} {pos : Pos} (ha : DE X cad W T a f) :
    DE X cad W T (.UnaryOp .USub a pos) (f.bind fun x => (peekR x).bind fun d => (M.ofO (negD d)).bind fun z => M.ret (.v z)) := by
  refine ⟨.bind ha.1 fun x => .bind .peek fun d => .bind .ofO fun z => .ret, pe_of (pe_un un_neg ha.2) fun σ H Q ⟨H₀, B, Z, ρ, h⟩ => ?_⟩
  · refine h.to ha.1 fun x ρ1 v H1 le1 ev1 ⟨p1, sp1⟩ h1 => ?_
    obtain ⟨d, _, q1, h2⟩ := h1.peek p1
    cases d with
    | int i => exact ⟨i, Rp.int_inv q1, tAt.val h2 (.int _)⟩
    | _ => exact h2.2.elim
theorem DE.not {a : Expr} {f : M Rv} {pos : Pos} (ha : DE X cad W T a f) :
    DE X cad W T (.UnaryOp .Not a pos) (f.bind fun x => (peekR x).bind fun d => (M.ofO (truD d)).bind fun k => M.ret (.v (.val (.bool (!k))))) := by
  refine ⟨.bind ha.1 fun x => .bind .peek fun d => .bind .ofO fun k => .ret, pe_of (pe_notT ha.2) fun σ H Q ⟨H₀, B, Z, ρ, h⟩ => ?_⟩
  refine h.to ha.1 fun x ρ1 v H1 le1 ev1 ⟨p1, sp1⟩ h1 => ?_
  obtain ⟨d, _, q1, h2⟩ := h1.peek p1
  obtain ⟨k, ek, h3⟩ := h2.ofO
  exact ⟨k, TruV.of q1 ek, h3.val (.bl _)⟩
theorem DE.one {op : BoolOp} {a : Expr} {f : M Rv} {pos : Pos} (ha : DE X cad W T a f) : DE X cad W T (.BoolOp op [a] pos) f := ⟨ha.1, pe_one ha.2⟩
/-- a value of its own is handed on -/
theorem tAt.settled {K : PySem.W.Frag} {H₀ : Hp} {B : Nat → Addr → Prop} {Z : Addr → Prop} {ρ : Env} {σ : St} {H : Hp} {v : V} {x : Vl} {Q : VK} (h : tAt K cad W T H₀ B Z ρ (M.ret (.v x)) (RpF K) σ H Q) (r : RpF K H₀ B Z ρ σ H v (.v x)) : Q v H := h.ret (.refl H) r
/-- e, settled -/
theorem DE.stl {e : Expr} {f : M Rv} (h : DE X cad W T e f) : DE X cad W T e (f.bind Gn.settle) := by
  refine ⟨.bind h.1 fun _ => .settle, pe_of h.2 fun σ H Q ⟨H₀, B, Z, ρ, q⟩ => ?_⟩
  refine q.to h.1 fun x ρ1 v H1 le1 ev1 ⟨p1, sp1⟩ h1 => ?_
  obtain ⟨S1, h1⟩ := h1
  rcases settle_ok S1 ⟨p1, sp1⟩ with e | ⟨y, ρ', e, le, S', p⟩
  · rw [e] at h1; exact h1.elim
  · rw [e] at h1; exact h1 v H1 S' .refl p
theorem DE.and {a b : Expr} {rest : List Expr} {f g : M Rv} {pos : Pos} (ha : DE X cad W T a f) (hb : DE X cad W T (.BoolOp .And (b :: rest) pos) g) :
    DE X cad W T (.BoolOp .And (a :: b :: rest) pos) (f.bind fun x => (settle x).bind fun x => (peekR x).bind fun d => (M.ofO (truD d)).bind fun k => if k then g.bind settle else M.ret x) := by
  have hb' := hb.stl
  refine ⟨.bind ha.1 fun x => .bind .settle fun x => .bind .peek fun d => .bind .ofO fun k => .ite hb'.1 .ret, pe_of (pe_andT ha.2 hb'.2) fun σ H Q ⟨H₀, B, Z, ρ, h⟩ => ?_⟩
  refine h.to ha.1 fun x ρ1 v H1 le1 ev1 ⟨p1, sp1⟩ h1 => ?_
  obtain ⟨y, ρ2, le2, p2, h2⟩ := h1.settle ⟨p1, sp1⟩
  obtain ⟨d, _, q1, h3⟩ := h2.peek p2.1
  obtain ⟨k, ek, h4⟩ := h3.ofO
  refine ⟨k, TruV.of q1 ek, ?_⟩
  cases k with
  | false => exact h4.settled p2
  | true => exact ⟨_, _, _, _, h4⟩
theorem DE.or {a b : Expr} {rest : List Expr} {f g : M Rv} {pos : Pos} (ha : DE X cad W T a f) (hb : DE X cad W T (.BoolOp .Or (b :: rest) pos) g) :
    DE X cad W T (.BoolOp .Or (a :: b :: rest) pos) (f.bind fun x => (settle x).bind fun x => (peekR x).bind fun d => (M.ofO (truD d)).bind fun k => if k then M.ret x else g.bind settle) := by
  have hb' := hb.stl
  refine ⟨.bind ha.1 fun x => .bind .settle fun x => .bind .peek fun d => .bind .ofO fun k => .ite .ret hb'.1, pe_of (pe_orT ha.2 hb'.2) fun σ H Q ⟨H₀, B, Z, ρ, h⟩ => ?_⟩
  refine h.to ha.1 fun x ρ1 v H1 le1 ev1 ⟨p1, sp1⟩ h1 => ?_
  obtain ⟨y, ρ2, le2, p2, h2⟩ := h1.settle ⟨p1, sp1⟩
  obtain ⟨d, _, q1, h3⟩ := h2.peek p2.1
  obtain ⟨k, ek, h4⟩ := h3.ofO
  refine ⟨k, TruV.of q1 ek, ?_⟩
  cases k with
  | true => exact h4.settled p2
  | false => exact ⟨_, _, _, _, h4⟩
theorem DE.ite {c a b : Expr} {t : M Bool} {f g : M Rv} {pos : Pos} (hc : DT X cad W T c t) (ha : DE X cad W T a f) (hb : DE X cad W T b g) :
    DE X cad W T (.IfExp c a b pos) (t.bind fun k => if k then f.bind settle else g.bind settle) := by
  have ha' := ha.stl
  have hb' := hb.stl
  refine ⟨.bind hc.1 fun k => .ite ha'.1 hb'.1, pe_of (pe_ifExp hc.2.1 ha'.2 hb'.2) fun σ H Q ⟨H₀, B, Z, ρ, h⟩ => ?_⟩
  refine h.to hc.1 fun k ρ1 v H1 le1 ev1 p1 h1 => ?_
  have p1 : v = k := p1
  subst p1
  cases v with
  | true => exact ⟨_, _, _, _, h1⟩
  | false => exact ⟨_, _, _, _, h1⟩

/-! ### subscripts, slices -/
theorem atI_rel {K : PySem.W.Frag} {O : Addr → Prop} {H : Hp} {vs : List V} {ds : List PD} {i : Int} {d : PD} (r : RpL K O H vs ds) (h : atI ds i = some d) : ∃ v, atI vs i = some v ∧ Rp K O H v d := by
  unfold atI at h ⊢
  rw [r.length]
  cases e : ixN ds.length i with
  | none => rw [e] at h; cases h
  | some j =>
    rw [e] at h
    exact RpL.get r (by simpa using h)

theorem DE.sub {a b : Expr} {f g : M Rv} {pos : Pos} (hs : PlainIx b) (ha : DE X cad W T a f) (hb : DE X cad W T b g) :
    DE X cad W T (.Subscript a b pos) (f.bind fun x => g.bind fun y => (peekR x).bind fun d => (peekR y).bind fun e => (M.ofO (subD d e)).bind fun z => M.ret (.v (.val z))) := by
  refine ⟨.bind ha.1 fun x => .bind hb.1 fun y => .bind .peek fun d => .bind .peek fun e => .bind .ofO fun z => .ret, pe_of (pe_ix (ix_list.or ix_tup) ha.2 hb.2 hs) fun σ H Q ⟨H₀, B, Z, ρ, h⟩ => ?_⟩
  refine h.to ha.1 fun x ρ1 v H1 le1 ev1 ⟨p1, sp1⟩ h1 => ?_
  refine h1.to hb.1 fun y ρ2 w H2 le2 ev2 ⟨p2, sp2⟩ h2 => ?_
  obtain ⟨d, _, q1, h3⟩ := h2.peek (p1.step le2 ev2)
  obtain ⟨e, _, q2, h4⟩ := h3.peek p2
  obtain ⟨z, ez, h5⟩ := h4.ofO
  unfold subD at ez
  split at ez
  · obtain ⟨p, vs, rfl, k1, k2⟩ := q1
    obtain ⟨u, e1, e2⟩ := atI_rel k2 ez
    exact .inl ⟨p, vs, _, u, rfl, Rp.int_inv q2, .inl (.inl k1), e1, h5.val e2⟩
  · obtain ⟨p, vs, rfl, k1, k2⟩ := Rp.tup_inv q1
    obtain ⟨u, e1, e2⟩ := atI_rel k2 ez
    exact .inr ⟨p, vs, _, u, rfl, Rp.int_inv q2, k1.sq, e1, h5.val e2⟩
  · cases ez
/-- a slice's part -/
def DO (X : Cx) (cad : Nat → Option Addr) (W : WX) (T : List Nat) (e : Option Expr) (f : M (Option Int)) : Prop := MOk T f ∧ PO X e (tW X.K cad W T f (fun _ _ _ _ _ _ o d => o = d))
theorem DO.none : DO X cad W T none (M.ret none) := ⟨.ret, ⟨fun pins s σ H Q I ⟨H₀, B, Z, ρ, h⟩ => po_none.run pins s σ H Q I (h.ret (.refl H) rfl)⟩⟩
theorem DO.some {e : Expr} {f : M Rv} (he : DE X cad W T e f) : DO X cad W T (some e) (f.bind fun x => (peekR x).bind fun d => (M.ofO (intD d)).bind fun i => M.ret (Option.some i)) := by
  refine ⟨.bind he.1 fun x => .bind .peek fun d => .bind .ofO fun i => .ret, ⟨fun pins s σ H Q I h => (po_some he.2).run pins s σ H Q I ?_⟩⟩
  obtain ⟨H₀, B, Z, ρ, h⟩ := h
  refine h.to he.1 fun x ρ1 v H1 le1 ev1 ⟨p1, sp1⟩ h1 => ?_
  obtain ⟨d, _, q1, h2⟩ := h1.peek p1
  obtain ⟨i, eo, h3⟩ := h2.ofO
  cases d with
  | int i =>
    cases eo
    exact ⟨i, Rp.int_inv q1, h3.ret (.refl H1) rfl⟩
  | _ => cases eo
theorem cut_rel {K : PySem.W.Frag} {O : Addr → Prop} {H : Hp} {vs : List V} {ds : List PD} (r : RpL K O H vs ds) (lo hi : Option Int) : RpL K O H (cutV vs lo hi) (cutD ds lo hi) := by
  unfold cutV cutD
  rw [r.length]
  exact (r.drop _).take _
theorem DE.slc {a : Expr} {lo hi : Option Expr} {f : M Rv} {l u : M (Option Int)} {p2 pos : Pos} (ha : DE X cad W T a f) (hl : DO X cad W T lo l) (hh : DO X cad W T hi u) :
    DE X cad W T (.Subscript a (.Slice lo hi none p2) pos) (f.bind fun x => l.bind fun l => u.bind fun h => (peekC x).bind fun d => (M.ofO (slcD d l h)).bind fun z => M.ret (.v z)) := by
  refine ⟨.bind ha.1 fun x => .bind hl.1 fun y => .bind hh.1 fun z => .bind .peekC fun d => .bind .ofO fun _ => .ret, pe_of (pe_slice (sl_list.or sl_tupA) ha.2 hl.2 hh.2) fun σ H Q ⟨H₀, B, Z, ρ, h⟩ => ?_⟩
  refine h.to ha.1 fun x ρ1 v H1 le1 ev1 ⟨p1, sp1⟩ h1 => ?_
  refine h1.to hl.1 fun lo ρ2 lo' H2 le2 ev2 p2 h2 => ?_
  have p2 : lo' = lo := p2
  subst p2
  refine h2.to hh.1 fun hi ρ3 hi' H3 le3 ev3 p3 h3 => ?_
  have p3 : hi' = hi := p3
  subst p3
  obtain ⟨d, q1, h4⟩ := h3.peekC ((p1.step le2 ev2).step le3 ev3)
  obtain ⟨z, ez, h5⟩ := h4.ofO
  unfold slcD at ez
  split at ez
  · cases ez
    obtain ⟨p, vs, rfl, k1, k2⟩ := q1
    exact .inl ⟨p, vs, rfl, k1, h5.ans.lst (cut_rel k2 lo' hi')⟩
  · cases ez
    obtain ⟨p, vs, rfl, k1, k2⟩ := Rp.tup_inv q1
    refine .inr ⟨p, vs, rfl, k1.sq, fun w => h5.ans.here (.tup k1 ?_), fun w => h5.ans.tup h5.tk (cut_rel k2 lo' hi')⟩
    have := cut_rel k2 lo' hi'
    unfold cutV at this
    rw [w.1, w.2, List.drop_zero, Nat.sub_zero, List.take_length] at this
    exact this
  · cases ez
/-! ### displays, arguments -/
/-- the syntax: e is no *e -/
def NoStar (e : Expr) : Prop := ∀ es env, starEach (e :: es) env = (false, eval e env) :: starEach es env
theorem DA.nilF : DA X cad W T [] (M.ret ([] : List PD)) (fun _ _ Z ρ σ H vs ds => RpL X.K (OO Z ρ σ) H vs ds) := ⟨.ret, pa_of pa_nil fun σ H Q ⟨H₀, B, Z, ρ, h⟩ => h.ret (.refl H) .nil⟩
theorem DA.consF {e : Expr} {es : List Expr} {f : M Rv} {g : M (List PD)} (ns : NoStar e) (he : DE X cad W T e f) (hs : DA X cad W T es g (fun _ _ Z ρ σ H vs ds => RpL X.K (OO Z ρ σ) H vs ds)) :
    DA X cad W T (e :: es) (f.bind fun x => (freeze x).bind fun d => g.bind fun ds => M.ret (d :: ds)) (fun _ _ Z ρ σ H vs ds => RpL X.K (OO Z ρ σ) H vs ds) := by
  refine ⟨.bind he.1 fun x => .bind .freeze fun d => .bind hs.1 fun ds => .ret, pa_of (pa_cons he.2 hs.2 (ns es _)) fun σ H Q ⟨H₀, B, Z, ρ, h⟩ => ?_⟩
  refine h.to he.1 fun x ρ1 v H1 le1 ev1 ⟨p1, sp1⟩ h1 => ?_
  obtain ⟨d, ρ2, le2, q1, h2⟩ := h1.freeze p1
  refine h2.to hs.1 fun ds ρ3 vs H3 le3 ev3 p3 h3 => ?_
  exact h3.ret (.refl H3) (.cons (q1.step le3 ev3) p3)
/-- as many as there are -/
def MLen {α : Type} (n : Nat) (f : M (List α)) : Prop := ∀ ρ a ρ', f ρ = .ok a ρ' → a.length = n
theorem MLen.nil {α : Type} : MLen 0 (M.ret ([] : List α)) := fun ρ a ρ' e => by cases e; rfl
theorem MLen.bind {α β : Type} {n : Nat} {f : M α} {g : α → M (List β)} (h : ∀ a, MLen n (g a)) : MLen n (f.bind g) := fun ρ b ρ' e => by
  unfold M.bind at e
  split at e
  · exact h _ _ _ _ e
  · cases e
  · cases e
theorem MLen.cons {α : Type} {n : Nat} {f : M (List α)} {d : α} (h : MLen n f) : MLen (n + 1) (f.bind fun ds => M.ret (d :: ds)) := fun ρ b ρ' e => by
  unfold M.bind at e
  split at e
  · rename_i a ρ1 e1
    cases e
    rw [List.length_cons, h _ _ _ e1]
  · cases e
  · cases e
theorem small_line {n : Nat} (h : n ≤ 1000) : n ≤ sizeLine := Nat.le_of_lt (small1000 h)
theorem DE.tup {es : List Expr} {g : M (List PD)} {n : Nat} {k pos} (hs : DA X cad W T es g (fun _ _ Z ρ σ H vs ds => RpL X.K (OO Z ρ σ) H vs ds)) (hl : MLen n g) (hn : n ≤ 1000) : DE X cad W T (.Tuple es k pos) (g.bind fun ds => M.ret (.v (.val (.tuple ds)))) := by
  refine ⟨.bind hs.1 fun _ => .ret, pe_of (pe_tup hs.2) fun σ H Q ⟨H₀, B, Z, ρ, h⟩ => ?_⟩
  refine ⟨H₀, B, Z, ρ, (h.bind (fun _ z => z) hs.1).mono fun vs H1 ⟨ds, ρ1, e, le, ev, p, q⟩ => ?_⟩
  exact ⟨by rw [RpL.length p, hl _ _ _ e]; exact small_line hn, q.ans.tup q.tk p⟩
theorem DE.lst {es : List Expr} {g : M (List PD)} {n : Nat} {pos} (hs : DA X cad W T es g (fun _ _ Z ρ σ H vs ds => RpL X.K (OO Z ρ σ) H vs ds)) (hl : MLen n g) (hn : n ≤ 1000) : DE X cad W T (.List es pos) (g.bind fun ds => M.ret (.v (.own ds false))) := by
  refine ⟨.bind hs.1 fun _ => .ret, pe_of (pe_lst hs.2) fun σ H Q ⟨H₀, B, Z, ρ, h⟩ => ?_⟩
  refine ⟨H₀, B, Z, ρ, (h.bind (fun _ z => z) hs.1).mono fun vs H1 ⟨ds, ρ1, e, le, ev, p, q⟩ => ?_⟩
  exact ⟨by rw [RpL.length p, hl _ _ _ e]; exact small_line hn, q.ans.lst p⟩

/-! ### built-in calls -/
def RVs (K : PySem.W.Frag) (H₀ : Hp) (O : Addr → Prop) (ρ : Env) (σ : St) (H : Hp) : List V → List Rv → Prop
  | [], [] => True
  | v :: vs, x :: xs => RpV K H₀ O ρ σ H v x ∧ RVs K H₀ O ρ σ H vs xs
  | _, _ => False
theorem DA.nilP : DA X cad W T [] (M.ret ([] : List Rv)) (fun H₀ _ Z ρ σ H vs xs => RVs X.K H₀ (OO Z ρ σ) ρ σ H vs xs) := ⟨.ret, pa_of pa_nil fun σ H Q ⟨H₀, B, Z, ρ, h⟩ => h.ret (.refl H) trivial⟩
theorem DA.consP {e : Expr} {es : List Expr} {f : M Rv} {g : M (List Rv)} (ns : NoStar e) (he : DE X cad W T e f) (hs : DA X cad W T es g (fun H₀ _ Z ρ σ H vs xs => RVs X.K H₀ (OO Z ρ σ) ρ σ H vs xs)) :
    DA X cad W T (e :: es) (f.bind fun x => g.bind fun xs => M.ret (x :: xs)) (fun H₀ _ Z ρ σ H vs xs => RVs X.K H₀ (OO Z ρ σ) ρ σ H vs xs) := by
  refine ⟨.bind he.1 fun x => .bind hs.1 fun ds => .ret, pa_of (pa_cons he.2 hs.2 (ns es _)) fun σ H Q ⟨H₀, B, Z, ρ, h⟩ => ?_⟩
  refine h.to he.1 fun x ρ1 v H1 le1 ev1 ⟨p1, sp1⟩ h1 => ?_
  refine h1.to hs.1 fun xs ρ3 vs H3 le3 ev3 p3 h3 => ?_
  exact h3.ret (.refl H3) ⟨p1.step le3 ev3, p3⟩
theorem MOk.peekAll : ∀ {xs : List Rv}, MOk T (peekAll xs)
  | [] => .ret
  | _ :: _ => .bind .peek fun _ => .bind MOk.peekAll fun _ => .ret
section
variable {β γ : Type} {K : PySem.W.Frag} {H₀ : Hp} {B : Nat → Addr → Prop} {Z : Addr → Prop} {ρ : Env} {σ : St} {H : Hp}
theorem peekAll_ok (S : StOk K H₀ B Z ρ σ H) : ∀ {vs : List V} {xs : List Rv}, RVs K H₀ (OO Z ρ σ) ρ σ H vs xs → peekAll xs ρ = .bad ∨ ∃ ds, peekAll xs ρ = .ok ds ρ ∧ PkL K (OO Z ρ σ) H vs ds
  | [], [], _ => .inr ⟨[], rfl, trivial⟩
  | v :: vs, x :: xs, ⟨p, q⟩ => by
    rcases peek_ok S p with e | ⟨d, e, k⟩
    · exact .inl (by simp only [peekAll, M.bind, e])
    · rcases peekAll_ok S q with e2 | ⟨ds, e2, k2⟩
      · exact .inl (by simp only [peekAll, M.bind, e, e2])
      · exact .inr ⟨d :: ds, by simp only [peekAll, M.bind, e, e2, M.ret], k, k2⟩
theorem tAt.peekAll {P : Post γ β} {g : List PD → M γ} {Q : β → Hp → Prop} {vs : List V} {xs : List Rv} (h : tAt K cad W T H₀ B Z ρ ((peekAll xs).bind g) P σ H Q) (r : RVs K H₀ (OO Z ρ σ) ρ σ H vs xs) :
    ∃ ds, PkL K (OO Z ρ σ) H vs ds ∧ tAt K cad W T H₀ B Z ρ (g ds) P σ H Q := by
  rcases peekAll_ok h.s r with e | ⟨d, e, p⟩
  · exact (h.bad e).elim
  · exact ⟨d, p, h.go e (.refl _) h.s⟩
end
def NoStars (es : List Expr) : Prop := ∀ pos env, (backTo pos (starEach es env)).any (·.1) = false
theorem NoStars.nil : NoStars [] := fun _ _ => rfl
theorem NoStars.cons {e : Expr} {es : List Expr} (h : NoStar e) (t : NoStars es) : NoStars (e :: es) := fun pos env => by
  rw [h es env]
  have := t pos env
  simp only [backTo, List.map_cons, List.any_cons, Bool.false_or] at this ⊢
  exact this
/-- a built-in's name -/
structure Blt (X : Cx) (x : Str) (u : Value) : Prop where
  gl : Gl X x
  mg : X.mg x = none
  bt : bootBuiltins x = some u
  nn : x ≠ "__name__"
  nd : (x == ("__debug__" : Str)) = false
def biOk : Bi → Bool
  | .sortedSet => false
  | .lenSet => false
  | _ => true
theorem DE.bi {b : Bi} {x : Str} {e : Expr} {es : List Expr} {g : M (List Rv)} {p pos : Pos} (nb : biOk b = true) (hc : X.calm = true) (hu : X.A.units + 64 < cLine) (hb : Blt X x (biC b)) (ns : NoStar e) (nss : NoStars es)
    (hs : DA X cad W T (e :: es) g (fun H₀ _ Z ρ σ H vs xs => RVs X.K H₀ (OO Z ρ σ) ρ σ H vs xs)) :
    DE X cad W T (.Call (.Name x p) (e :: es) [] pos) (g.bind fun xs => (peekAll xs).bind fun ds => (M.ofO (biD b ds)).bind fun z => M.ret (.v z)) := by
  have cr := cr_bi b (by rintro rfl; cases nb) hc hu
  have pe : PE X (.Call (.Name x p) (e :: es) [] pos) (tCB (rBi X.K (biD b)) (tW X.K cad W T g (fun H₀ _ Z ρ σ H vs xs => RVs X.K H₀ (OO Z ρ σ) ρ σ H vs xs))) := by
    have hb' := hb.bt
    cases b <;> first
      | exact pe_callB cr hb.gl hb.mg hb' hs.2 hb.nn hb.nd (ns es _) (nss pos _)
      | exact pe_callTy cr hb.gl hb.mg hb' hs.2 hb.nn hb.nd (ns es _) (nss pos _)
      | cases nb
  refine ⟨.bind hs.1 fun _ => .bind .peekAll fun _ => .bind .ofO fun _ => .ret, pe_of pe fun σ H Q ⟨H₀, B, Z, ρ, h⟩ => ?_⟩
  refine h.to hs.1 fun xs ρ1 vs H1 le1 ev1 p1 h1 => ?_
  obtain ⟨ds, q1, h2⟩ := h1.peekAll p1
  obtain ⟨z, ez, h3⟩ := h2.ofO
  exact ⟨_, ds, z, h3.tk, q1, ez, h3.ans⟩

/-! ### isinstance -/
def tyN : Ty → String
  | .int => "int"
  | .bool => "bool"
  | .str => "str"
  | .list => "list"
  | .tuple => "tuple"
def kdN : PD → String
  | .none => "NoneType"
  | .bool _ => "bool"
  | .int _ => "int"
  | .str _ => "str"
  | .list _ => "list"
  | .tuple _ => "tuple"
  | .dict _ => "dict"
theorem Pk.ty {K : PySem.W.Frag} {O : Addr → Prop} {H : Hp} {v : V} {d : PD} (h : Pk K O H v d) : TyX K H v (.type (kdN d)) := by
  cases d with
  | none => rw [Rp.non_inv h]; exact .base .non
  | bool b => rw [Rp.bl_inv h]; exact .base (.bl b)
  | int i => rw [Rp.int_inv h]; exact .base (.int i)
  | str s => rw [Rp.str_inv h]; exact .base (.str s)
  | list xs =>
    obtain ⟨a, vs, rfl, h1, h2⟩ := h
    exact .base (.lst h1)
  | tuple xs =>
    obtain ⟨a, vs, rfl, h1, h2⟩ := Rp.tup_inv h
    rcases h1 with h1 | ⟨o, its, n, k1, k2, _⟩
    · exact .base (.tup h1.1)
    · exact .kTuple k1 k2
  | dict _ => cases h
theorem kit_all : (kitB "NoneType" "int" = some false ∧ kitB "NoneType" "bool" = some false ∧ kitB "NoneType" "str" = some false ∧ kitB "NoneType" "list" = some false ∧ kitB "NoneType" "tuple" = some false) ∧
    (kitB "bool" "int" = some true ∧ kitB "bool" "bool" = some true ∧ kitB "bool" "str" = some false ∧ kitB "bool" "list" = some false ∧ kitB "bool" "tuple" = some false) ∧
    (kitB "int" "int" = some true ∧ kitB "int" "bool" = some false ∧ kitB "int" "str" = some false ∧ kitB "int" "list" = some false ∧ kitB "int" "tuple" = some false) ∧
    (kitB "str" "int" = some false ∧ kitB "str" "bool" = some false ∧ kitB "str" "str" = some true ∧ kitB "str" "list" = some false ∧ kitB "str" "tuple" = some false) ∧
    (kitB "list" "int" = some false ∧ kitB "list" "bool" = some false ∧ kitB "list" "str" = some false ∧ kitB "list" "list" = some true ∧ kitB "list" "tuple" = some false) ∧
    (kitB "tuple" "int" = some false ∧ kitB "tuple" "bool" = some false ∧ kitB "tuple" "str" = some false ∧ kitB "tuple" "list" = some false ∧ kitB "tuple" "tuple" = some true) := by decide +kernel
theorem kit_tyD {K : PySem.W.Frag} (d : PD) (t : Ty) (nd : ∀ kvs, d ≠ .dict kvs) : PySem.W.kitOne K (.type (kdN d)) (.type (tyN t)) = some (tyD d t) := by
  refine kit_ty ?_
  have k := kit_all
  cases d with
  | dict kvs => exact absurd rfl (nd kvs)
  | none => cases t <;> first | exact k.1.1 | exact k.1.2.1 | exact k.1.2.2.1 | exact k.1.2.2.2.1 | exact k.1.2.2.2.2
  | bool _ => cases t <;> first | exact k.2.1.1 | exact k.2.1.2.1 | exact k.2.1.2.2.1 | exact k.2.1.2.2.2.1 | exact k.2.1.2.2.2.2
  | int _ => cases t <;> first | exact k.2.2.1.1 | exact k.2.2.1.2.1 | exact k.2.2.1.2.2.1 | exact k.2.2.1.2.2.2.1 | exact k.2.2.1.2.2.2.2
  | str _ => cases t <;> first | exact k.2.2.2.1.1 | exact k.2.2.2.1.2.1 | exact k.2.2.2.1.2.2.1 | exact k.2.2.2.1.2.2.2.1 | exact k.2.2.2.1.2.2.2.2
  | list _ => cases t <;> first | exact k.2.2.2.2.1.1 | exact k.2.2.2.2.1.2.1 | exact k.2.2.2.2.1.2.2.1 | exact k.2.2.2.2.1.2.2.2.1 | exact k.2.2.2.2.1.2.2.2.2
  | tuple _ => cases t <;> first | exact k.2.2.2.2.2.1 | exact k.2.2.2.2.2.2.1 | exact k.2.2.2.2.2.2.2.1 | exact k.2.2.2.2.2.2.2.2.1 | exact k.2.2.2.2.2.2.2.2.2
theorem Pk.nodict {K : PySem.W.Frag} {O : Addr → Prop} {H : Hp} {v : V} {d : PD} (h : Pk K O H v d) : ∀ kvs, d ≠ .dict kvs := by
  rintro kvs rfl; cases h
theorem kitAny_tyD {K : PySem.W.Frag} (d : PD) (nd : ∀ kvs, d ≠ .dict kvs) : ∀ ts : List Ty, PySem.W.kitAny K (.type (kdN d)) (ts.map fun t => .type (tyN t)) = some (ts.any (tyD d))
  | [] => kitAny_nil
  | t :: ts => by
    refine kitAny_cons (kit_tyD d t nd) (fun h => ?_) fun h => ?_
    · rw [kitAny_tyD d nd ts, List.any_cons, h, Bool.false_or]
    · rw [List.any_cons, h, Bool.true_or]
theorem DE.isi1 {a : Expr} {f : M Rv} {t : Ty} {x : Str} {p p2 pos : Pos} (hb : Blt X "isinstance" (.builtin "isinstance")) (ht : Blt X x (.type (tyN t))) (ns : NoStar a) (ha : DE X cad W T a f) :
    DE X cad W T (.Call (.Name "isinstance" p) [a, .Name x p2] [] pos) (f.bind fun x => (peekR x).bind fun d => M.ret (.v (.val (.bool ([t].any (tyD d)))))) := by
  have pt : PE X (.Name x p2) (tC (.ty (tyN t))) := pe_bltn ht.gl ht.mg ht.bt rfl ht.nn ht.nd
  have pe := pe_callB call_isi hb.gl hb.mg hb.bt (pa_cons ha.2 (pa_cons pt pa_nil) (ns _ _)) hb.nn hb.nd (ns _ _) (NoStars.cons (fun _ _ => rfl) .nil pos _) (p := p) (pos := pos)
  refine ⟨.bind ha.1 fun _ => .bind .peek fun _ => .ret, pe_of pe fun σ H Q ⟨H₀, B, Z, ρ, h⟩ => ?_⟩
  refine h.to ha.1 fun x ρ1 v H1 le1 ev1 ⟨p1, sp1⟩ h1 => ?_
  obtain ⟨d, _, q1, h2⟩ := h1.peek p1
  exact ⟨v, .ty (tyN t), _, _, _, rfl, .ty _, q1.ty, kit_tyD d t q1.nodict, h2.val (by rw [List.any_cons, List.any_nil, Bool.or_false]; exact .bl _)⟩
/-- the names of types -/
inductive TyNs (X : Cx) : List Expr → List Ty → Prop where
  | nil : TyNs X [] []
  | cons {x : Str} {p : Pos} {t : Ty} {es : List Expr} {ts : List Ty} : Blt X x (.type (tyN t)) → TyNs X es ts → TyNs X (.Name x p :: es) (t :: ts)
theorem TyNs.pa {es : List Expr} {ts : List Ty} (h : TyNs X es ts) : PA X es (fun _ H Q => Q (ts.map fun t => V.ty (tyN t)) H) := by
  induction h with
  | nil => exact pa_nil
  | cons hb _ ih => exact pa_cons (pe_bltn (v := V.ty (tyN _)) hb.gl hb.mg hb.bt rfl hb.nn hb.nd) ih rfl
theorem clsV_tys : ∀ ts : List Ty, Paired ClsV (ts.map fun t => V.ty (tyN t)) (ts.map fun t => Value.type (tyN t))
  | [] => .nil
  | _ :: ts => .cons (.ty _) (clsV_tys ts)
theorem DE.isiT {a : Expr} {f : M Rv} {ts : List Ty} {es : List Expr} {p p2 pos : Pos} {k : Nat} (hb : Blt X "isinstance" (.builtin "isinstance")) (ht : TyNs X es ts) (hl : ts.length ≤ 1000) (ns : NoStar a) (ha : DE X cad W T a f) :
    DE X cad W T (.Call (.Name "isinstance" p) [a, .Tuple es k p2] [] pos) (f.bind fun x => (peekR x).bind fun d => M.ret (.v (.val (.bool (ts.any (tyD d)))))) := by
  have pe := pe_callB call_isiT hb.gl hb.mg hb.bt (pa_cons ha.2 (pa_cons (pe_tup (x1 := k) (pos := p2) ht.pa) pa_nil) (ns _ _)) hb.nn hb.nd (ns _ _) (NoStars.cons (fun _ _ => rfl) .nil pos _) (p := p) (pos := pos)
  refine ⟨.bind ha.1 fun _ => .bind .peek fun _ => .ret, pe_of pe fun σ H Q ⟨H₀, B, Z, ρ, h⟩ => ?_⟩
  refine h.to ha.1 fun x ρ1 v H1 le1 ev1 ⟨p1, sp1⟩ h1 => ?_
  obtain ⟨d, _, q1, h2⟩ := h1.peek p1
  refine ⟨by rw [List.length_map]; exact small_line hl, fun tp hp => ?_⟩
  have nw : Same H1 (upd H1 tp (.tup (ts.map fun t => V.ty (tyN t)))) := same_new hp
  have q2 : Pk X.K (OO Z ρ1 σ) (upd H1 tp (.tup (ts.map fun t => V.ty (tyN t)))) v d := by
    cases d <;> first | exact Rp.same nw q1 | (obtain ⟨a, vs, e1, e2, e3⟩ := q1; exact ⟨a, vs, e1, nw _ _ e2, e3.same nw⟩)
  exact ⟨v, tp, _, _, _, _, rfl, upd_same, clsV_tys ts, q2.ty, kitAny_tyD d q1.nodict ts, h2.ret nw ⟨.bl _, trivial⟩⟩
end
end Gn

/-! Gn, part G: ranges, methods of lists, what is walked. -/
namespace Gn
open PySem PySem.Spec L2
open PyProof.Rows hiding St

theorem M.assoc {α β γ : Type} (m : M α) (f : α → M β) (g : β → M γ) : (m.bind f).bind g = m.bind fun x => (f x).bind g := by
  funext ρ
  simp only [M.bind]
  cases m ρ <;> rfl
theorem M.ret_bind {α β : Type} (a : α) (g : α → M β) : (M.ret a).bind g = g a := rfl
theorem M.bad_bind {α β : Type} (g : α → M β) : (M.bad : M α).bind g = M.bad := rfl
theorem rng_rel {K : PySem.W.Frag} {O : Addr → Prop} {H : Hp} : ∀ (n : Nat) (lo : Int), RpL K O H ((List.range n).map fun i => V.int (lo + (i : Nat))) (rngD lo n)
  | 0, _ => .nil
  | n + 1, lo => by
    rw [List.range_succ_eq_map, List.map_cons, List.map_map]
    have e : ((fun i : Nat => V.int (lo + (i : Nat))) ∘ Nat.succ) = fun i : Nat => V.int ((lo + 1) + (i : Nat)) := by
      funext i
      show V.int _ = V.int _
      congr 1
      push_cast
      omega
    rw [e]
    have h0 : Rp K O H (V.int (lo + ((0 : Nat) : Int))) (.int lo) := by
      rw [show lo + ((0 : Nat) : Int) = lo by simp]
      exact .int lo
    exact .cons h0 (rng_rel n (lo + 1))
theorem rngOk_use {i j : Int} (h : rngOk i j = true) : RgOk i j := by
  simp only [rngOk, Bool.and_eq_true, decide_eq_true_eq] at h
  exact ⟨h.1.1.1.1, h.1.1.1.2, h.1.1.2, h.1.2, h.2⟩
section
variable {X : Cx} {cad : Nat → Option Addr} {W : WX} {T : List Nat}
theorem MOk.rg1 {f : M Rv} (h : MOk T f) : MOk T (rg1 f) := .bind h fun x => .bind .peek fun d => by
  cases d <;> first | exact .ite .ret .bad | exact .bad
theorem MOk.rg2 {f g : M Rv} (h : MOk T f) (h' : MOk T g) : MOk T (rg2 f g) := .bind h fun x => .bind h' fun y => .bind .peek fun d => .bind .peek fun e => by
  cases d <;> cases e <;> first | exact .ite .ret .bad | exact .bad
theorem rg1_use {γ β : Type} {P : Post γ β} {a : Expr} {f : M Rv} {g : List PD → M γ} {Q : β → Hp → Prop} {K : PySem.W.Frag} {H₀ : Hp} {B : Nat → Addr → Prop} {Z : Addr → Prop} {ρ : Env} {σ : St} {H : Hp} {R : V → Hp → Prop} (hf : MOk T f) (h : tAt K cad W T H₀ B Z ρ ((rg1 f).bind g) P σ H Q)
    (k : ∀ n ρ1 H1, EnvLe T ρ ρ1 → Ev T ρ σ H H1 → rngOk 0 n = true → tAt K cad W T H₀ B Z ρ1 (g (rngD 0 n.toNat)) P σ H1 Q → R (.int n) H1) : tW K cad W T f (RpF K) σ H R := by
  unfold rg1 at h
  rw [M.assoc] at h
  refine h.to hf fun x ρ1 v H1 le1 ev1 ⟨p1, sp1⟩ h1 => ?_
  rw [M.assoc] at h1
  obtain ⟨d, _, q1, h2⟩ := h1.peek p1
  cases d with
  | int j =>
    dsimp only at h2
    cases e : rngOk 0 j with
    | false => rw [e] at h2; exact h2.2.elim
    | true =>
      rw [e] at h2
      rw [Rp.int_inv q1]
      exact k j ρ1 H1 le1 ev1 e h2
  | _ => exact h2.2.elim
theorem rg2_use {γ β : Type} {P : Post γ β} {f f' : M Rv} {g : List PD → M γ} {Q : β → Hp → Prop} {K : PySem.W.Frag} {H₀ : Hp} {B : Nat → Addr → Prop} {Z : Addr → Prop} {ρ : Env} {σ : St} {H : Hp} {R : V → V → Hp → Prop} (hf : MOk T f) (hf' : MOk T f') (h : tAt K cad W T H₀ B Z ρ ((rg2 f f').bind g) P σ H Q)
    (k : ∀ m n ρ1 H1, EnvLe T ρ ρ1 → Ev T ρ σ H H1 → rngOk m n = true → tAt K cad W T H₀ B Z ρ1 (g (rngD m (n - m).toNat)) P σ H1 Q → R (.int m) (.int n) H1) : tW K cad W T f (RpF K) σ H fun x H1 => tW K cad W T f' (RpF K) σ H1 fun y H2 => R x y H2 := by
  unfold rg2 at h
  rw [M.assoc] at h
  refine h.to hf fun x ρ1 v H1 le1 ev1 ⟨p1, sp1⟩ h1 => ?_
  rw [M.assoc] at h1
  refine h1.to hf' fun y ρ2 w H2 le2 ev2 ⟨p2, sp2⟩ h2 => ?_
  rw [M.assoc] at h2
  obtain ⟨d, _, q1, h3⟩ := h2.peek (p1.step le2 ev2)
  rw [M.assoc] at h3
  obtain ⟨e, _, q2, h4⟩ := h3.peek p2
  cases d with
  | int i =>
    cases e with
    | int j =>
      dsimp only at h4
      cases e : rngOk i j with
      | false => rw [e] at h4; exact h4.2.elim
      | true =>
        rw [e] at h4
        rw [Rp.int_inv q1, Rp.int_inv q2]
        exact k i j ρ2 H2 (le1.trans le2) (ev1.trans le1 ev2) e h4
    | _ => exact h4.2.elim
  | _ => exact h4.2.elim
theorem DE.lstR1 {a : Expr} {f : M Rv} {p p2 pos pos2 : Pos} (hc : X.calm = true) (hl : Blt X "list" (.type "list")) (hr : Blt X "range" (.type "range")) (ns : NoStar a) (ha : DE X cad W T a f) :
    DE X cad W T (.Call (.Name "list" p) [.Call (.Name "range" p2) [a] [] pos2] [] pos) ((rg1 f).bind fun ds => M.ret (.v (.own ds false))) := by
  refine ⟨.bind (.rg1 ha.1) fun _ => .ret, pe_of (pe_listRg hc hl.gl hl.mg (prg_1 hr.gl hr.mg ha.2 (ns _ _)) rfl) fun σ H Q ⟨H₀, B, Z, ρ, h⟩ => ?_⟩
  refine rg1_use (a := a) ha.1 h fun n ρ1 H1 _ _ ok h1 => ⟨n, rfl, rngOk_use ok, ?_⟩
  have := h1.ans.lst (rng_rel (K := X.K) (O := OO Z ρ1 σ) (H := H1) n.toNat 0)
  unfold rgV
  rw [show (n - 0).toNat = n.toNat by simp]
  exact this
theorem DE.lstR2 {a b : Expr} {f g : M Rv} {p p2 pos pos2 : Pos} (hc : X.calm = true) (hl : Blt X "list" (.type "list")) (hr : Blt X "range" (.type "range")) (ns : NoStar a) (ns2 : NoStar b) (ha : DE X cad W T a f) (hb : DE X cad W T b g) :
    DE X cad W T (.Call (.Name "list" p) [.Call (.Name "range" p2) [a, b] [] pos2] [] pos) ((rg2 f g).bind fun ds => M.ret (.v (.own ds false))) := by
  refine ⟨.bind (.rg2 ha.1 hb.1) fun _ => .ret, pe_of (pe_listRg hc hl.gl hl.mg (prg_2 hr.gl hr.mg ha.2 hb.2 (ns _ _) (ns2 _ _) (NoStars.cons ns2 .nil _ _)) rfl) fun σ H Q ⟨H₀, B, Z, ρ, h⟩ => ?_⟩
  exact rg2_use ha.1 hb.1 h fun m n ρ1 H1 _ _ ok h1 => ⟨m, n, rfl, rfl, rngOk_use ok, h1.ans.lst (rng_rel (K := X.K) (O := OO Z ρ1 σ) (H := H1) (n - m).toNat m)⟩
theorem DE.tupR1 {a : Expr} {f : M Rv} {p p2 pos pos2 : Pos} (hc : X.calm = true) (hl : Blt X "tuple" (.type "tuple")) (hr : Blt X "range" (.type "range")) (ns : NoStar a) (ha : DE X cad W T a f) :
    DE X cad W T (.Call (.Name "tuple" p) [.Call (.Name "range" p2) [a] [] pos2] [] pos) ((rg1 f).bind fun ds => M.ret (.v (.val (.tuple ds)))) := by
  refine ⟨.bind (.rg1 ha.1) fun _ => .ret, pe_of (pe_tupRg hc hl.gl hl.mg (prg_1 hr.gl hr.mg ha.2 (ns _ _)) rfl) fun σ H Q ⟨H₀, B, Z, ρ, h⟩ => ?_⟩
  refine rg1_use (a := a) ha.1 h fun n ρ1 H1 _ _ ok h1 => ⟨n, rfl, rngOk_use ok, ?_⟩
  have := h1.ans.tup h1.tk (rng_rel (K := X.K) (O := OO Z ρ1 σ) (H := H1) n.toNat 0)
  unfold rgV
  rw [show (n - 0).toNat = n.toNat by simp]
  exact this
theorem DE.tupR2 {a b : Expr} {f g : M Rv} {p p2 pos pos2 : Pos} (hc : X.calm = true) (hl : Blt X "tuple" (.type "tuple")) (hr : Blt X "range" (.type "range")) (ns : NoStar a) (ns2 : NoStar b) (ha : DE X cad W T a f) (hb : DE X cad W T b g) :
    DE X cad W T (.Call (.Name "tuple" p) [.Call (.Name "range" p2) [a, b] [] pos2] [] pos) ((rg2 f g).bind fun ds => M.ret (.v (.val (.tuple ds)))) := by
  refine ⟨.bind (.rg2 ha.1 hb.1) fun _ => .ret, pe_of (pe_tupRg hc hl.gl hl.mg (prg_2 hr.gl hr.mg ha.2 hb.2 (ns _ _) (ns2 _ _) (NoStars.cons ns2 .nil _ _)) rfl) fun σ H Q ⟨H₀, B, Z, ρ, h⟩ => ?_⟩
  exact rg2_use ha.1 hb.1 h fun m n ρ1 H1 _ _ ok h1 => ⟨m, n, rfl, rfl, rngOk_use ok, h1.ans.tup h1.tk (rng_rel (K := X.K) (O := OO Z ρ1 σ) (H := H1) (n - m).toNat m)⟩

/-! ### a list that a slot holds is changed -/
section
variable {K : PySem.W.Frag} {H₀ : Hp} {B : Nat → Addr → Prop} {Z : Addr → Prop} {ρ : Env} {σ : St} {H : Hp}
theorem StOk.write (S : StOk K H₀ B Z ρ σ H) {i : Nat} {xs xs' : List PD} {b : Bool} (e : getS ρ i = some (.own xs b)) {a : Addr} {vs' : List V} (hs : σ[i]? = some (some (.ref a))) (r : RpL K (OO Z ρ σ) H vs' xs') :
    EnvLe [i] ρ (ρ.set i (some (.own xs' b))) ∧ Ev [i] ρ σ H (upd H a (.lst vs')) ∧ StOk K H₀ B Z (ρ.set i (some (.own xs' b))) σ (upd H a (.lst vs')) := by
  have hi := getS_lt e
  have le : EnvLe [i] ρ (ρ.set i (some (.own xs' b))) := by
    refine ⟨List.length_set .., fun j => ?_⟩
    by_cases hj : i = j
    · subst hj
      rw [getS_set_self hi, e]
      exact ⟨xs', fun z => absurd (List.mem_singleton.mpr rfl) z, .inl rfl⟩
    · rw [getS_set_ne hj]; exact .refl _
  have ev : Ev [i] ρ σ H (upd H a (.lst vs')) := fun c o ec n => by
    have hne : c ≠ a := fun z => n ⟨i, List.mem_singleton.mpr rfl, _, e, rfl, by rw [z]; exact hs⟩
    rw [upd_ne hne]; exact ec
  obtain ⟨v, e1, a', vs, e2, h1, h2⟩ := S.slot i _ e
  rw [hs] at e1; cases e1; cases e2
  have hO := S.own i _ a e rfl hs
  have at_ : ∀ c, OO Z (ρ.set i (some (.own xs' b))) σ c → OO Z ρ σ c := fun c z => le.oo z
  have m : ∀ c o, Tr (OO Z ρ σ) H c o → Tr (OO Z (ρ.set i (some (.own xs' b))) σ) (upd H a (.lst vs')) c o := fun c o q => by
    have hne : c ≠ a := fun z => q.2 (.inr ⟨i, _, e, rfl, by rw [z]; exact hs⟩)
    exact ⟨by rw [upd_ne hne]; exact q.1, fun z => q.2 (at_ c z)⟩
  refine ⟨le, ev, ⟨by rw [List.length_set]; exact S.len, fun c o ec n => ?_, S.bt₀, fun j c hb => ?_, fun c z => ⟨?_, (S.zok c z).2⟩, fun j y f => ?_, fun j y c f1 f2 f3 => ?_, fun j k y z c f1 f2 f3 f4 f5 f6 => ?_⟩⟩
  · have hne : c ≠ a := by
      rintro rfl
      have q := hO.2
      split at q
      · exact n ⟨i, q⟩
      · rw [q] at ec; cases ec
    rw [upd_ne hne]; exact S.keep c o ec n
  · obtain ⟨o, ho⟩ := S.btr j c hb
    by_cases hc : c = a
    · subst hc; exact ⟨_, upd_same⟩
    · exact ⟨o, by rw [upd_ne hc]; exact ho⟩
  · obtain ⟨o, ho⟩ := (S.zok c z).1
    by_cases hc : c = a
    · subst hc; exact ⟨_, upd_same⟩
    · exact ⟨o, by rw [upd_ne hc]; exact ho⟩
  · by_cases hj : i = j
    · subst hj
      rw [getS_set_self hi] at f; cases f
      exact ⟨_, hs, a, vs', rfl, upd_same, RpL.mono m _ _ r⟩
    · rw [getS_set_ne hj] at f
      obtain ⟨w, g1, g2⟩ := S.slot j y f
      refine ⟨w, g1, g2.mono m fun c us ho ew q => ?_⟩
      have hne : c ≠ a := by
        rintro rfl
        rw [ew] at g1
        exact hj (S.inj i j _ _ c e rfl f ho hs g1)
      rw [upd_ne hne]; exact q
  · by_cases hj : i = j
    · subst hj
      rw [getS_set_self hi] at f1; cases f1
      have q := S.own i _ c e rfl f3
      exact q
    · rw [getS_set_ne hj] at f1
      exact S.own j y c f1 f2 f3
  · have old : ∀ l u, getS (ρ.set i (some (.own xs' b))) l = some u → isOwn u = true → ∃ u', getS ρ l = some u' ∧ isOwn u' = true := fun l u g1 g2 => by
      by_cases hl : i = l
      · subst hl; exact ⟨_, e, rfl⟩
      · rw [getS_set_ne hl] at g1; exact ⟨u, g1, g2⟩
    obtain ⟨y', a1, a2⟩ := old j y f1 f2
    obtain ⟨z', b1, b2⟩ := old k z f3 f4
    exact S.inj j k y' z' c a1 a2 b1 b2 f5 f6
theorem chkOwn_ok {i : Nat} : chkOwn i ρ = .bad ∨ ∃ xs b, getS ρ i = some (.own xs b) ∧ chkOwn i ρ = .ok () ρ := by
  unfold chkOwn
  cases e : getS ρ i with
  | none => exact .inl rfl
  | some y =>
    cases y with
    | own xs b => exact .inr ⟨xs, b, rfl, rfl⟩
    | _ => exact .inl rfl
theorem tAt.chk {γ β : Type} {P : Post γ β} {g : Unit → M γ} {Q : β → Hp → Prop} {i : Nat} (h : tAt K cad W T H₀ B Z ρ ((chkOwn i).bind g) P σ H Q) : ∃ xs b a vs, getS ρ i = some (.own xs b) ∧ σ[i]? = some (some (.ref a)) ∧ H a = some (.lst vs) ∧ RpL K (OO Z ρ σ) H vs xs ∧ tAt K cad W T H₀ B Z ρ (g ()) P σ H Q := by
  rcases chkOwn_ok (ρ := ρ) (i := i) with e | ⟨xs, b, e1, e2⟩
  · exact (h.bad e).elim
  · obtain ⟨v, e3, a, vs, rfl, h1, h2⟩ := h.s.slot i _ e1
    exact ⟨xs, b, a, vs, e1, e3, h1, h2, h.go e2 (.refl _) h.s⟩
end
theorem MOk.chkOwn {i : Nat} : MOk T (chkOwn i) := fun ρ => by
  rcases chkOwn_ok (ρ := ρ) (i := i) with e | ⟨xs, b, e1, e2⟩
  · rw [e]; trivial
  · rw [e2]; exact .refl _
/-- slot i's list is rewritten -/
theorem le_set {ρ : Env} {i : Nat} {xs xs' : List PD} {b : Bool} (hT : i ∈ T) (e : getS ρ i = some (.own xs b)) : EnvLe T ρ (ρ.set i (some (.own xs' b))) := by
  refine ⟨List.length_set .., fun j => ?_⟩
  by_cases hj : i = j
  · subst hj
    rw [getS_set_self (getS_lt e), e]
    exact ⟨xs', fun z => absurd hT z, .inl rfl⟩
  · rw [getS_set_ne hj]; exact .refl _
theorem appM_ok {ρ : Env} {i : Nat} {d : PD} : appM i d ρ = .bad ∨ ∃ xs b, getS ρ i = some (.own xs b) ∧ xs.length < SL ∧ appM i d ρ = .ok (.v (.val .none)) (ρ.set i (some (.own (xs ++ [d]) b))) := by
  unfold Gn.appM
  cases e : getS ρ i with
  | none => exact .inl rfl
  | some y =>
    cases y with
    | own xs b =>
      dsimp only
      by_cases h : xs.length < SL
      · exact .inr ⟨xs, b, rfl, h, by rw [if_pos h]⟩
      · exact .inl (by rw [if_neg h])
    | _ => exact .inl rfl
theorem MOk.appM {i : Nat} {d : PD} (hT : i ∈ T) : MOk T (appM i d) := fun ρ => by
  rcases appM_ok (ρ := ρ) (i := i) (d := d) with e | ⟨xs, b, e, h, e1⟩
  · rw [e]; trivial
  · rw [e1]; exact le_set hT e
theorem extM_ok {ρ : Env} {i : Nat} {d : PD} : extM i d ρ = .bad ∨ ∃ xs ys b, d = .list ys ∧ getS ρ i = some (.own xs b) ∧ xs.length + ys.length ≤ SL ∧ extM i d ρ = .ok (.v (.val .none)) (ρ.set i (some (.own (xs ++ ys) b))) := by
  unfold Gn.extM
  cases e : getS ρ i with
  | none => exact .inl rfl
  | some y =>
    cases y with
    | own xs b =>
      cases d with
      | list ys =>
        dsimp only
        by_cases h : xs.length + ys.length ≤ SL
        · exact .inr ⟨xs, ys, b, rfl, rfl, h, by rw [if_pos h]⟩
        · exact .inl (by rw [if_neg h])
      | _ => exact .inl rfl
    | _ => exact .inl rfl
theorem MOk.extM {i : Nat} {d : PD} (hT : i ∈ T) : MOk T (extM i d) := fun ρ => by
  rcases extM_ok (ρ := ρ) (i := i) (d := d) with e | ⟨xs, ys, b, _, e, h, e1⟩
  · rw [e]; trivial
  · rw [e1]; exact le_set hT e
theorem popM_ok {ρ : Env} {i : Nat} {k : Option Int} : popM i k ρ = .bad ∨ ∃ xs b j d, getS ρ i = some (.own xs b) ∧ L2.ixN xs.length (k.getD (-1)) = some j ∧ xs[j]? = some d ∧ xs.length ≤ SL ∧ popM i k ρ = .ok (.v (.val d)) (ρ.set i (some (.own (xs.eraseIdx j) b))) := by
  unfold Gn.popM
  cases e : getS ρ i with
  | none => exact .inl rfl
  | some y =>
    cases y with
    | own xs b =>
      dsimp only
      cases e2 : L2.ixN xs.length (k.getD (-1)) with
      | none => exact .inl rfl
      | some j =>
        dsimp only
        cases e3 : xs[j]? with
        | none => exact .inl rfl
        | some d =>
          dsimp only
          by_cases h : xs.length ≤ SL
          · exact .inr ⟨xs, b, j, d, rfl, e2, e3, h, by rw [if_pos h]⟩
          · exact .inl (by rw [if_neg h])
    | _ => exact .inl rfl
theorem MOk.popM {i : Nat} {k : Option Int} (hT : i ∈ T) : MOk T (popM i k) := fun ρ => by
  rcases popM_ok (ρ := ρ) (i := i) (k := k) with e | ⟨xs, b, j, d, e, h, _, _, e1⟩
  · rw [e]; trivial
  · rw [e1]; exact le_set hT e
/-- the method's syntax: no star, few arguments, one line -/
structure MetSyn (X : Cx) (e : Expr) (apos cpos : Pos) : Prop where
  ns : NoStar e
  line : (apos.endLine == cpos.line) = true
theorem few1 {e : Expr} (ns : NoStar e) (cpos : Pos) (env : PySem.Env) : ((backTo cpos (starEach (e :: []) env)).all (fun x => !x.1) && (backToKw cpos (keywordEach [] env)).all (fun x => x.1.isSome)
      && decide ((e :: []).length + ([] : List Keyword).length + (if ([] : List Keyword).isEmpty then 0 else 1) < 30)) = true := by
  rw [ns [] env]
  rfl
theorem DE.app {i : Nat} {x : Str} {e : Expr} {f : M Rv} {p apos cpos : Pos} (hT : i ∈ T) (hN : X.N[i]? = some x) (hv : Vis X.env.scope x) (hd : (x == ("__debug__" : Str)) = false) (hcd : (x == ("__classdict__" : Str)) = false) (ns : NoStar e) (hl : (apos.endLine == cpos.line) = true) (he : DE X cad W T e f) :
    DE X cad W T (.Call (.Attribute (.Name x p) "append" apos) [e] [] cpos) ((chkOwn i).bind fun _ => f.bind fun x => (freeze x).bind fun d => appM i d) := by
  have pe : PE X (.Call (.Attribute (.Name x p) "append" apos) [e] [] cpos) _ := pe_bm (PySem.F.plainAttrs_list) (PySem.F.slot_list_append) (by first | rfl | decide) (mt_append) (pe_var hN hv hd hcd) (pa_cons he.2 pa_nil (ns _ _)) rfl (few1 ns cpos _) hl (ns _ _) rfl
  refine ⟨.bind .chkOwn fun _ => .bind he.1 fun _ => .bind .freeze fun _ => .appM hT, pe_of pe fun σ H Q ⟨H₀, B, Z, ρ, h⟩ => ?_⟩
  obtain ⟨xs, b, a, vs, e1, e2, e3, e4, h1⟩ := h.chk
  refine ⟨.ref a, e2, .inl ⟨rfl, vs, .inl (.inl e3)⟩, ?_⟩
  refine h1.to he.1 fun y ρ1 v H1 le1 ev1 ⟨p1, sp1⟩ h2 => ?_
  obtain ⟨d, ρ2, le2, q2, h3⟩ := h2.freeze p1
  obtain ⟨S3, h3⟩ := h3
  rcases appM_ok (ρ := ρ2) (i := i) (d := d) with e | ⟨xs2, b2, g, hz, e⟩
  · rw [e] at h3; exact h3.elim
  · rw [e] at h3
    obtain ⟨v', k1, a', vs2, rfl, k2, k3⟩ := S3.slot i _ g
    rw [e2] at k1; cases k1
    obtain ⟨w1, w2, w3⟩ := S3.write g e2 (k3.append (.cons q2 .nil))
    exact ⟨a, vs2, v, rfl, rfl, k2, by rw [k3.length, ← SL_eq]; exact hz, h3 _ _ w3 (w2.mono fun j hj => by rw [List.mem_singleton.mp hj]; exact hT) ⟨.non, trivial⟩⟩
theorem DE.ext {i : Nat} {x : Str} {e : Expr} {f : M Rv} {p apos cpos : Pos} (hT : i ∈ T) (hN : X.N[i]? = some x) (hv : Vis X.env.scope x) (hd : (x == ("__debug__" : Str)) = false) (hcd : (x == ("__classdict__" : Str)) = false) (ns : NoStar e) (hl : (apos.endLine == cpos.line) = true) (he : DE X cad W T e f) :
    DE X cad W T (.Call (.Attribute (.Name x p) "extend" apos) [e] [] cpos) ((chkOwn i).bind fun _ => f.bind fun x => (freeze x).bind fun d => extM i d) := by
  have pe : PE X (.Call (.Attribute (.Name x p) "extend" apos) [e] [] cpos) _ := pe_bm (PySem.F.plainAttrs_list) (PySem.F.slot_list_extend) (by first | rfl | decide) (mt_extend) (pe_var hN hv hd hcd) (pa_cons he.2 pa_nil (ns _ _)) rfl (few1 ns cpos _) hl (ns _ _) rfl
  refine ⟨.bind .chkOwn fun _ => .bind he.1 fun _ => .bind .freeze fun _ => .extM hT, pe_of pe fun σ H Q ⟨H₀, B, Z, ρ, h⟩ => ?_⟩
  obtain ⟨xs, b, a, vs, e1, e2, e3, e4, h1⟩ := h.chk
  refine ⟨.ref a, e2, .inl ⟨rfl, vs, .inl (.inl e3)⟩, ?_⟩
  refine h1.to he.1 fun y ρ1 v H1 le1 ev1 ⟨p1, sp1⟩ h2 => ?_
  obtain ⟨d, ρ2, le2, q2, h3⟩ := h2.freeze p1
  obtain ⟨S3, h3⟩ := h3
  rcases extM_ok (ρ := ρ2) (i := i) (d := d) with e | ⟨xs2, ys, b2, rfl, g, hz, e⟩
  · rw [e] at h3; exact h3.elim
  · rw [e] at h3
    obtain ⟨v', k1, a', vs2, rfl, k2, k3⟩ := S3.slot i _ g
    rw [e2] at k1; cases k1
    obtain ⟨a3, vs3, rfl, t3, r3⟩ := Rp.lst_inv q2
    obtain ⟨w1, w2, w3⟩ := S3.write g e2 (k3.append r3)
    exact ⟨a, a3, vs2, vs3, rfl, rfl, k2, t3.1, by rw [k3.length, r3.length, ← SL_eq]; exact hz, h3 _ _ w3 (w2.mono fun j hj => by rw [List.mem_singleton.mp hj]; exact hT) ⟨.non, trivial⟩⟩
theorem ixN_last {n j : Nat} (h : L2.ixN n (-1) = some j) : j = n - 1 ∧ 0 < n := by
  unfold L2.ixN at h
  simp only [show ¬ ((0 : Int) ≤ -1) by decide, if_false] at h
  split at h
  · cases h
    refine ⟨?_, ?_⟩ <;> omega
  · cases h
theorem erase_last {α : Type} : ∀ (l : List α), l.eraseIdx (l.length - 1) = l.dropLast
  | [] => rfl
  | [_] => rfl
  | x :: y :: r => by
    have := erase_last (y :: r)
    simp only [List.length_cons, Nat.add_sub_cancel, List.eraseIdx_cons_succ, List.dropLast_cons₂] at this ⊢
    rw [this]
theorem DE.pop0 {i : Nat} {x : Str} {p apos cpos : Pos} (hT : i ∈ T) (hN : X.N[i]? = some x) (hv : Vis X.env.scope x) (hd : (x == ("__debug__" : Str)) = false) (hcd : (x == ("__classdict__" : Str)) = false) (hl : (apos.endLine == cpos.line) = true) :
    DE X cad W T (.Call (.Attribute (.Name x p) "pop" apos) [] [] cpos) ((chkOwn i).bind fun _ => (M.ret none).bind fun k => popM i k) := by
  have pe : PE X (.Call (.Attribute (.Name x p) "pop" apos) [] [] cpos) _ := pe_bm0 (PySem.F.plainAttrs_list) (PySem.F.slot_list_pop) (by first | rfl | decide) (mt_pop) (pe_var hN hv hd hcd) rfl hl
  refine ⟨.bind .chkOwn fun _ => .bind .ret fun _ => .popM hT, pe_of pe fun σ H Q ⟨H₀, B, Z, ρ, h⟩ => ?_⟩
  obtain ⟨xs, b, a, vs, e1, e2, e3, e4, h1⟩ := h.chk
  refine ⟨.ref a, e2, .inl ⟨rfl, vs, .inl (.inl e3)⟩, ?_⟩
  obtain ⟨S3, h3⟩ := h1
  rw [M.ret_bind] at h3
  rcases popM_ok (ρ := ρ) (i := i) (k := none) with e | ⟨xs2, b2, j, d, g, hj, hd, hz, e⟩
  · rw [e] at h3; exact h3.elim
  · rw [e] at h3
    rw [e1] at g; cases g
    obtain ⟨rfl, hpos⟩ := ixN_last hj
    obtain ⟨u, hu, ru⟩ := e4.get hd
    have ed : vs.dropLast = vs.eraseIdx (xs.length - 1) := by rw [← e4.length, erase_last]
    obtain ⟨w1, w2, w3⟩ := S3.write e1 e2 (e4.erase (xs.length - 1))
    refine ⟨a, vs, u, rfl, rfl, e3, by rw [e4.length]; exact hu, ?_⟩
    rw [ed]
    exact h3 _ _ w3 (w2.mono fun j hj => by rw [List.mem_singleton.mp hj]; exact hT) ⟨ru.step w1 w2, trivial⟩
theorem DE.popA {i : Nat} {x : Str} {e : Expr} {f : M Rv} {p apos cpos : Pos} (hT : i ∈ T) (hN : X.N[i]? = some x) (hv : Vis X.env.scope x) (hd : (x == ("__debug__" : Str)) = false) (hcd : (x == ("__classdict__" : Str)) = false) (ns : NoStar e) (hl : (apos.endLine == cpos.line) = true) (he : DE X cad W T e f) :
    DE X cad W T (.Call (.Attribute (.Name x p) "pop" apos) [e] [] cpos) ((chkOwn i).bind fun _ => (f.bind fun x => (peekR x).bind fun d => (M.ofO (intD d)).bind fun i => M.ret (some i)).bind fun k => popM i k) := by
  have pe : PE X (.Call (.Attribute (.Name x p) "pop" apos) [e] [] cpos) _ := pe_bm (PySem.F.plainAttrs_list) (PySem.F.slot_list_pop) (by first | rfl | decide) (mt_popAt) (pe_var hN hv hd hcd) (pa_cons he.2 pa_nil (ns _ _)) rfl (few1 ns cpos _) hl (ns _ _) rfl
  refine ⟨.bind .chkOwn fun _ => .bind (.bind he.1 fun _ => .bind .peek fun _ => .bind .ofO fun _ => .ret) fun _ => .popM hT, pe_of pe fun σ H Q ⟨H₀, B, Z, ρ, h⟩ => ?_⟩
  obtain ⟨xs, b, a, vs, e1, e2, e3, e4, h1⟩ := h.chk
  refine ⟨.ref a, e2, .inl ⟨rfl, vs, .inl (.inl e3)⟩, ?_⟩
  rw [M.assoc] at h1
  refine h1.to he.1 fun y ρ1 v H1 le1 ev1 ⟨p1, sp1⟩ h2 => ?_
  rw [M.assoc] at h2
  obtain ⟨d0, _, q2, h3⟩ := h2.peek p1
  rw [M.assoc] at h3
  obtain ⟨k, ek, h4⟩ := h3.ofO
  rw [M.ret_bind] at h4
  obtain ⟨S3, h5⟩ := h4
  rcases popM_ok (ρ := ρ1) (i := i) (k := some k) with e | ⟨xs2, b2, j, d, g, hj, hd, hz, e⟩
  · rw [e] at h5; exact h5.elim
  · rw [e] at h5
    have ed : d0 = .int k := by
      cases d0 <;> first | (cases ek; rfl) | cases ek
    obtain ⟨v', k1, a', vs2, rfl, k2, k3⟩ := S3.slot i _ g
    rw [e2] at k1; cases k1
    obtain ⟨u, hu, ru⟩ := k3.get hd
    obtain ⟨w1, w2, w3⟩ := S3.write g e2 (k3.erase j)
    rw [ed] at q2
    rw [Rp.int_inv q2]
    have hj' : L2.ixN vs2.length k = some j := by rw [k3.length]; exact hj
    obtain ⟨s1, s2, s3, s4⟩ := ixN_seq hj'
    have hz2 : vs2.length ≤ 16777216 := by rw [k3.length]; exact hz
    exact ⟨a, vs2, k, j, u, rfl, rfl, k2, by omega, by omega, s1, hu, h5 _ _ w3 (w2.mono fun j hj => by rw [List.mem_singleton.mp hj]; exact hT) ⟨ru.step w1 w2, trivial⟩⟩
end
end Gn

/-! Gn, part H: what is walked; targets. -/
namespace Gn
open PySem PySem.Spec L2
open PyProof.Rows hiding St
open RZ

inductive Src where
  | list (a : Addr) (vs : List V)
  | tup (a : Addr) (vs : List V)
  | rng (lo : Int) (n : Nat)
  | enum (a : Addr) (vs : List V)
  | zipL (a b : Addr) (vs ws : List V)
  | zipT (a b : Addr) (vs ws : List V)
def Src.J (K : PySem.W.Frag) : Src → It
  | .list a _ => Itl K a
  | .tup a _ => Itt K a
  | .rng lo n => Itr lo n
  | .enum a _ => Ite K a
  | .zipL a b _ _ => Itz K a b
  | .zipT a b _ _ => ItzT K a b
def Src.n : Src → Nat
  | .list _ vs => vs.length
  | .tup _ vs => vs.length
  | .rng _ n => n
  | .enum _ vs => vs.length
  | .zipL _ _ vs ws => min vs.length ws.length
  | .zipT _ _ vs ws => min vs.length ws.length
def Src.G (K : PySem.W.Frag) : Src → Hp → Prop
  | .list a vs, H => SqL K H a vs
  | .tup a vs, H => SqT K H a vs
  | .rng _ _, _ => True
  | .enum a vs, H => SqL K H a vs
  | .zipL a b vs ws, H => SqL K H a vs ∧ SqL K H b ws
  | .zipT a b vs ws, H => SqT K H a vs ∧ SqT K H b ws
def Src.Y : Src → Nat → Hp → V → Hp → Prop
  | .list _ vs => YAt vs
  | .tup _ vs => YAt vs
  | .rng lo _ => YFn fun i => .int (lo + (i : Nat))
  | .enum _ vs => YPair (fun i => some (.int (i : Nat))) (fun i => vs[i]?)
  | .zipL _ _ vs ws => YPair (fun i => vs[i]?) (fun i => ws[i]?)
  | .zipT _ _ vs ws => YPair (fun i => vs[i]?) (fun i => ws[i]?)
def Src.Ok (K : PySem.W.Frag) (O : Addr → Prop) (H : Hp) : Src → List PD → Prop
  | .list a vs, ds => Tr O H a (.lst vs) ∧ RpL K O H vs ds
  | .tup a vs, ds => Tp K O H a vs ∧ RpL K O H vs ds
  | .rng lo n, ds => ds = rngD lo n
  | .enum a vs, ds => Tr O H a (.lst vs) ∧ ∃ es, ds = enumD es 0 ∧ RpL K O H vs es
  | .zipL a b vs ws, ds => ∃ xs ys, ds = zipD xs ys ∧ (Tr O H a (.lst vs) ∧ RpL K O H vs xs) ∧ (Tr O H b (.lst ws) ∧ RpL K O H ws ys)
  | .zipT a b vs ws, ds => ∃ xs ys, ds = zipD xs ys ∧ (Tp K O H a vs ∧ RpL K O H vs xs) ∧ (Tp K O H b ws ∧ RpL K O H ws ys)
section
variable {K : PySem.W.Frag} {O O' : Addr → Prop} {H H' : Hp} {ds : List PD}
theorem walk_zipT {a b : Addr} {xs ys : List V} {n : Nat} (hn : n = min xs.length ys.length) : Walk (ItzT K a b) n (fun H => SqT K H a xs ∧ SqT K H b ys) (YPair (fun i => xs[i]?) (fun i => ys[i]?)) := by
  subst hn
  refine ⟨fun i _ hi q => ?_, fun _ q => ⟨xs, ys, q.1, q.2, by omega⟩, fun i H v H' _ q y => ?_⟩
  · have h1 : i < xs.length := by omega
    have h2 : i < ys.length := by omega
    exact ⟨xs, ys, xs[i], ys[i], q.1, q.2, by simp [h1], by simp [h2]⟩
  · obtain ⟨T, x, z, h1, h2, h3, h4, h5⟩ := y
    exact ⟨T, x, z, h1, h2, h3, h4 xs q.1, h5 ys q.2⟩
theorem Src.walk (s : Src) : Walk (s.J K) s.n (s.G K) s.Y := by
  cases s with
  | list a vs => exact walk_list
  | tup a vs => exact walk_tup
  | rng lo n => exact walk_range
  | enum a vs => exact walk_enum
  | zipL a b vs ws => exact walk_zip rfl
  | zipT a b vs ws => exact walk_zipT rfl
theorem Tp.mono (m : ∀ a o, Tr O H a o → Tr O' H' a o) {a : Addr} {vs : List V} (h : Tp K O H a vs) : Tp K O' H' a vs := by
  rcases h with h | h
  · exact .inl (m _ _ h)
  · exact .inr h
theorem Src.Ok.mono (m : ∀ a o, Tr O H a o → Tr O' H' a o) : ∀ {s : Src}, s.Ok K O H ds → s.Ok K O' H' ds
  | .list _ _, ⟨h1, h2⟩ => ⟨m _ _ h1, RpL.mono m _ _ h2⟩
  | .tup _ _, ⟨h1, h2⟩ => ⟨h1.mono m, RpL.mono m _ _ h2⟩
  | .rng _ _, h => h
  | .enum _ _, ⟨h1, es, e, h2⟩ => ⟨m _ _ h1, es, e, RpL.mono m _ _ h2⟩
  | .zipL _ _ _ _, ⟨xs, ys, e, ⟨h1, h2⟩, h3, h4⟩ => ⟨xs, ys, e, ⟨m _ _ h1, RpL.mono m _ _ h2⟩, m _ _ h3, RpL.mono m _ _ h4⟩
  | .zipT _ _ _ _, ⟨xs, ys, e, ⟨h1, h2⟩, h3, h4⟩ => ⟨xs, ys, e, ⟨h1.mono m, RpL.mono m _ _ h2⟩, h3.mono m, RpL.mono m _ _ h4⟩
theorem Src.Ok.g : ∀ {s : Src}, s.Ok K O H ds → s.G K H
  | .list _ _, ⟨h1, _⟩ => .inl (.inl h1.1)
  | .tup _ _, ⟨h1, _⟩ => h1.sq
  | .rng _ _, _ => trivial
  | .enum _ _, ⟨h1, _⟩ => .inl (.inl h1.1)
  | .zipL _ _ _ _, ⟨_, _, _, ⟨h1, _⟩, h3, _⟩ => ⟨.inl (.inl h1.1), .inl (.inl h3.1)⟩
  | .zipT _ _ _ _, ⟨_, _, _, ⟨h1, _⟩, h3, _⟩ => ⟨h1.sq, h3.sq⟩
theorem rngD_length : ∀ (n : Nat) (lo : Int), (rngD lo n).length = n
  | 0, _ => rfl
  | n + 1, lo => by rw [rngD, List.length_cons, rngD_length n]
theorem enumD_length : ∀ (es : List PD) (k : Nat), (enumD es k).length = es.length
  | [], _ => rfl
  | _ :: es, k => by rw [enumD, List.length_cons, List.length_cons, enumD_length es]
theorem rngD_get : ∀ (n : Nat) (lo : Int) (i : Nat), i < n → (rngD lo n)[i]? = some (.int (lo + (i : Nat)))
  | n + 1, lo, 0, _ => by simp [rngD]
  | n + 1, lo, i + 1, h => by
    rw [rngD, List.getElem?_cons_succ, rngD_get n (lo + 1) i (by omega)]
    congr 2
    push_cast
    omega
theorem enumD_get : ∀ (es : List PD) (k i : Nat) (d : PD), es[i]? = some d → (enumD es k)[i]? = some (.tuple [.int ((k + i : Nat) : Int), d])
  | [], _, _, _, h => by simp at h
  | x :: es, k, 0, d, h => by
    simp only [List.getElem?_cons_zero, Option.some.injEq] at h
    subst h
    simp [enumD]
  | x :: es, k, i + 1, d, h => by
    rw [enumD, List.getElem?_cons_succ, enumD_get es (k + 1) i d (by simpa using h)]
    rw [show k + 1 + i = k + (i + 1) by omega]
theorem Src.Ok.n : ∀ {s : Src}, s.Ok K O H ds → s.n = ds.length
  | .list _ _, ⟨_, h⟩ => h.length
  | .tup _ _, ⟨_, h⟩ => h.length
  | .rng lo n, h => by subst h; exact (rngD_length n lo).symm
  | .enum _ _, ⟨_, es, e, h2⟩ => by subst e; rw [enumD_length]; exact h2.length
  | .zipL _ _ _ _, ⟨xs, ys, e, ⟨_, h2⟩, _, h4⟩ => by
    subst e
    rw [zipD, List.length_zipWith, ← h2.length, ← h4.length]
    rfl
  | .zipT _ _ _ _, ⟨xs, ys, e, ⟨_, h2⟩, _, h4⟩ => by
    subst e
    rw [zipD, List.length_zipWith, ← h2.length, ← h4.length]
    rfl
theorem pair_step {i : Nat} {x : V} {fs gs : Nat → Option V} {d e : PD} (t : Tk O H) (y : YPair fs gs i H x H') (h1 : ∀ v, fs i = some v → Rp K O H v d) (h2 : ∀ v, gs i = some v → Rp K O H v e) : Same H H' ∧ Rp K O H' x (.tuple [d, e]) := by
  obtain ⟨T, u, w, rfl, hT, rfl, e1, e2⟩ := y
  exact ⟨same_new hT, .tup (.inl ⟨upd_same, t.new hT⟩) (.cons ((h1 u e1).same (same_new hT)) (.cons ((h2 w e2).same (same_new hT)) .nil))⟩
theorem Src.Ok.step (t : Tk O H) {x : V} {i : Nat} : ∀ {s : Src}, s.Ok K O H ds → i < s.n → s.Y i H x H' → Same H H' ∧ ∃ d, ds[i]? = some d ∧ Rp K O H' x d
  | .list _ vs, ⟨_, h⟩, _, y => by
    obtain ⟨rfl, y⟩ := y
    obtain ⟨d, e, r⟩ := h.getv y
    exact ⟨.refl _, d, e, r⟩
  | .tup _ vs, ⟨_, h⟩, _, y => by
    obtain ⟨rfl, y⟩ := y
    obtain ⟨d, e, r⟩ := h.getv y
    exact ⟨.refl _, d, e, r⟩
  | .rng lo n, h, hi, y => by
    obtain ⟨rfl, rfl⟩ := y
    have h : ds = rngD lo n := h
    subst h
    exact ⟨.refl _, _, rngD_get n lo i hi, .int _⟩
  | .enum a vs, ⟨_, es, e, h⟩, hi, y => by
    subst e
    have hi : i < vs.length := hi
    obtain ⟨d, e1, r⟩ := h.getv (List.getElem?_eq_getElem hi)
    have := pair_step (K := K) (fs := fun i => some (.int (i : Nat))) (gs := fun i => vs[i]?) (d := .int (i : Nat)) (e := d) t y (fun v hv => by cases hv; exact .int _) fun v hv => by
      rw [List.getElem?_eq_getElem hi] at hv
      cases hv; exact r
    exact ⟨this.1, _, by rw [enumD_get es 0 i d e1, Nat.zero_add], this.2⟩
  | .zipL a b vs ws, ⟨xs, ys, e, ⟨_, h2⟩, _, h4⟩, hi, y => by
    subst e
    have hi : i < min vs.length ws.length := hi
    have i1 : i < vs.length := by omega
    have i2 : i < ws.length := by omega
    obtain ⟨d, e1, r1⟩ := h2.getv (List.getElem?_eq_getElem i1)
    obtain ⟨e, e2, r2⟩ := h4.getv (List.getElem?_eq_getElem i2)
    have := pair_step (K := K) (d := d) (e := e) t y (fun v hv => by rw [List.getElem?_eq_getElem i1] at hv; cases hv; exact r1) fun v hv => by
      rw [List.getElem?_eq_getElem i2] at hv
      cases hv; exact r2
    exact ⟨this.1, _, by rw [zipD, List.getElem?_zipWith, e1, e2], this.2⟩
  | .zipT a b vs ws, ⟨xs, ys, e, ⟨_, h2⟩, _, h4⟩, hi, y => by
    subst e
    have hi : i < min vs.length ws.length := hi
    have i1 : i < vs.length := by omega
    have i2 : i < ws.length := by omega
    obtain ⟨d, e1, r1⟩ := h2.getv (List.getElem?_eq_getElem i1)
    obtain ⟨e, e2, r2⟩ := h4.getv (List.getElem?_eq_getElem i2)
    have := pair_step (K := K) (d := d) (e := e) t y (fun v hv => by rw [List.getElem?_eq_getElem i1] at hv; cases hv; exact r1) fun v hv => by
      rw [List.getElem?_eq_getElem i2] at hv
      cases hv; exact r2
    exact ⟨this.1, _, by rw [zipD, List.getElem?_zipWith, e1, e2], this.2⟩
end

section
variable {X : Cx} {cad : Nat → Option Addr} {W : WX} {T : List Nat} {tg : Expr}
def PSrc (K : PySem.W.Frag) : Post (List PD) It := fun _ _ Z ρ σ H J ds => ∃ s : Src, J = s.J K ∧ s.Ok K (OO Z ρ σ) H ds ∧ ds.length ≤ sizeLine
def DI (X : Cx) (cad : Nat → Option Addr) (W : WX) (T : List Nat) (tg it : Expr) (f : M (List PD)) : Prop := MOk T f ∧ PI X tg it (tW X.K cad W T f (PSrc X.K))
/-- the lists' lengths are known where a heap stands for them -/
theorem pi_bd {it : Expr} {wi wi' : TI} (h : PI X tg it wi) (m : ∀ σ H R, wi' σ H R → wi σ H fun J H1 => (∀ a xs, SqL X.K H1 a xs → xs.length ≤ sizeLine) → (∀ a xs, SqT X.K H1 a xs → xs.length ≤ sizeLine) → R J H1) : PI X tg it wi' := by
  refine ⟨fun pins s σ H R I hw => thn (h.run pins s σ H _ I (m σ H R hw)) fun v s1 h1 => thn h1 fun itv s2 h2 => ?_⟩
  obtain ⟨it, fp, tn, J, H2, e, I2, T, st2, f2, q⟩ := h2
  exact ⟨it, fp, tn, J, H2, e, I2, T, st2, f2, q (fun a xs hq => (I2.list hq).choose_spec.2.2) fun a xs hq => (I2.tuple hq).choose_spec.2.2⟩
/-- a list or a tuple -/
theorem pi_seq {l : Expr} {tl : TE} (hl : PE X l tl) : PI X tg l (fun σ H R => tl σ H fun x H1 => ∃ a, x = .ref a ∧ ((∃ xs, SqL X.K H1 a xs) ∧ R (Itl X.K a) H1 ∨ (∃ xs, SqT X.K H1 a xs) ∧ R (Itt X.K a) H1)) := by
  refine ⟨fun pins s σ H R I h => ?_⟩
  refine thn (hl.run pins s σ H _ I h) fun v s1 ⟨x, H1, I1, r1, q1⟩ => ?_
  obtain ⟨a, e, q⟩ := q1
  subst e
  cases r1
  rcases q with ⟨⟨xs, hq⟩, q⟩ | ⟨⟨xs, hq⟩, q⟩
  · obtain ⟨its, rv, p, hz⟩ := I1.list hq
    refine wpAny_pyIter_list p.isList ?_
    refine ⟨s1.heap.objs.size, [s1.heap.objs.size], _, _, H1, rfl, I1.kept (t' := s1.toks) fun b o e => Heap.get?_push_of_some _ e, turn_list a _, ⟨_, Heap.get?_push_size _ rfl, rfl, rfl⟩, fun b hb => ?_, q⟩
    rw [List.mem_singleton.mp hb]
    exact I1.fpOk (Nat.le_refl _) (I1.hok.fresh (Nat.le_refl _))
  · obtain ⟨its, rv, p, hz⟩ := I1.tuple hq
    refine wpAny_pyIter_tuple (show s1.heap.IsTuple a its.toArray from p) ?_
    refine ⟨s1.heap.objs.size, [s1.heap.objs.size], _, _, H1, rfl, I1.kept (t' := s1.toks) fun b o e => Heap.get?_push_of_some _ e, turn_tuple a _, ⟨_, Heap.get?_push_size _ rfl, rfl, rfl⟩, fun b hb => ?_, q⟩
    rw [List.mem_singleton.mp hb]
    exact I1.fpOk (Nat.le_refl _) (I1.hok.fresh (Nat.le_refl _))
theorem DI.seq {e : Expr} {f : M Rv} (he : DE X cad W T e f) : DI X cad W T tg e (f.bind fun x => (freeze x).bind fun d => (M.ofO (seqOf d)).bind fun ds => M.ret ds) := by
  refine ⟨.bind he.1 fun _ => .bind .freeze fun _ => .bind .ofO fun _ => .ret, pi_bd (pi_seq he.2) fun σ H R ⟨H₀, B, Z, ρ, h⟩ => ?_⟩
  refine h.to he.1 fun x ρ1 v H1 le1 ev1 ⟨p1, sp1⟩ h1 => ?_
  obtain ⟨d, ρ2, le2, q2, h2⟩ := h1.freeze p1
  obtain ⟨ds, ed, h3⟩ := h2.ofO
  cases d with
  | list xs =>
    cases ed
    obtain ⟨a, vs, rfl, t, r⟩ := Rp.lst_inv q2
    have sq : SqL X.K H1 a vs := .inl (.inl t.1)
    exact ⟨a, rfl, .inl ⟨⟨vs, sq⟩, fun b1 _ => h3.ret (.refl H1) ⟨.list a vs, rfl, ⟨t, r⟩, by rw [← r.length]; exact b1 a vs sq⟩⟩⟩
  | tuple xs =>
    cases ed
    obtain ⟨a, vs, rfl, t, r⟩ := Rp.tup_inv q2
    exact ⟨a, rfl, .inr ⟨⟨vs, t.sq⟩, fun _ b2 => h3.ret (.refl H1) ⟨.tup a vs, rfl, ⟨t, r⟩, by rw [← r.length]; exact b2 a vs t.sq⟩⟩⟩
  | _ => cases ed
theorem SL_line : (SL : Nat) ≤ sizeLine := Nat.le_of_eq SL_eq
theorem DI.rng1 {a : Expr} {f : M Rv} {p pos : Pos} (hr : Blt X "range" (.type "range")) (ns : NoStar a) (ha : DE X cad W T a f) : DI X cad W T tg (.Call (.Name "range" p) [a] [] pos) (rg1 f) := by
  refine ⟨.rg1 ha.1, pi_bd (pi_range1 hr.gl hr.mg (pa_cons ha.2 pa_nil (ns _ _)) (ns _ _)) fun σ H R ⟨H₀, B, Z, ρ, h⟩ => ?_⟩
  have h' : tAt X.K cad W T H₀ B Z ρ ((rg1 f).bind fun ds => M.ret ds) (PSrc X.K) σ H R := by
    have e : ((rg1 f).bind fun ds => M.ret ds) = rg1 f := by
      funext ρ
      simp only [M.bind, M.ret]
      cases rg1 f ρ <;> rfl
    rw [e]; exact h
  refine rg1_use (a := a) ha.1 h' fun n ρ1 H1 _ _ ok h1 => ?_
  have ko := rngOk_use ok
  refine ⟨n, rfl, ko.2.2.1, ko.2.2.2.1, fun _ _ => h1.ret (.refl H1) ⟨.rng 0 n.toNat, rfl, rfl, ?_⟩⟩
  rw [rngD_length]
  have := ko.2.2.2.2
  rw [sizeLine_eq]
  omega
theorem DI.rng2 {a b : Expr} {f g : M Rv} {p pos : Pos} (hr : Blt X "range" (.type "range")) (ns : NoStar a) (ns2 : NoStar b) (ha : DE X cad W T a f) (hb : DE X cad W T b g) : DI X cad W T tg (.Call (.Name "range" p) [a, b] [] pos) (rg2 f g) := by
  have hs2 := ns2 [] X.env
  refine ⟨.rg2 ha.1 hb.1, pi_bd (pi_range2 hr.gl hr.mg (pa_cons ha.2 (pa_cons hb.2 pa_nil (ns2 _ _)) (ns _ _)) ((ns _ _).trans (by rw [hs2]; rfl)) hs2) fun σ H R ⟨H₀, B, Z, ρ, h⟩ => ?_⟩
  have h' : tAt X.K cad W T H₀ B Z ρ ((rg2 f g).bind fun ds => M.ret ds) (PSrc X.K) σ H R := by
    have e : ((rg2 f g).bind fun ds => M.ret ds) = rg2 f g := by
      funext ρ
      simp only [M.bind, M.ret]
      cases rg2 f g ρ <;> rfl
    rw [e]; exact h
  refine rg2_use ha.1 hb.1 h' fun m n ρ1 H1 _ _ ok h1 => ?_
  have ko := rngOk_use ok
  refine ⟨m, n, rfl, ⟨ko.1, ko.2.1, ko.2.2.1, ko.2.2.2.1⟩, fun _ _ => h1.ret (.refl H1) ⟨.rng m (n - m).toNat, rfl, rfl, ?_⟩⟩
  rw [rngD_length]
  have := ko.2.2.2.2
  rw [sizeLine_eq]
  omega
theorem DI.enum {e : Expr} {f : M Rv} {p pos tpos : Pos} {elts : List Expr} {kk : Nat} (hr : Blt X "enumerate" (.type "enumerate")) (ns : NoStar e) (he : DE X cad W T e f) :
    DI X cad W T (.Tuple elts kk tpos) (.Call (.Name "enumerate" p) [e] [] pos) (f.bind fun x => (freeze x).bind fun d => (M.ofO (enumP d)).bind fun ds => M.ret ds) := by
  refine ⟨.bind he.1 fun _ => .bind .freeze fun _ => .bind .ofO fun _ => .ret, pi_bd (pi_enum hr.gl hr.mg (pa_cons he.2 pa_nil (ns _ _)) (ns _ _)) fun σ H R ⟨H₀, B, Z, ρ, h⟩ => ?_⟩
  refine h.to he.1 fun x ρ1 v H1 le1 ev1 ⟨p1, sp1⟩ h1 => ?_
  obtain ⟨d, ρ2, le2, q2, h2⟩ := h1.freeze p1
  obtain ⟨ds, ed, h3⟩ := h2.ofO
  cases d with
  | list xs =>
    cases ed
    obtain ⟨a, vs, rfl, t, r⟩ := Rp.lst_inv q2
    have sq : SqL X.K H1 a vs := .inl (.inl t.1)
    exact ⟨a, vs, rfl, sq, fun b1 _ => h3.ret (.refl H1) ⟨.enum a vs, rfl, ⟨t, xs, rfl, r⟩, by rw [enumD_length, ← r.length]; exact b1 a vs sq⟩⟩
  | _ => cases ed
theorem DI.zip {e e2 : Expr} {f g : M Rv} {p pos tpos : Pos} {elts : List Expr} {kk : Nat} (hr : Blt X "zip" (.type "zip")) (ns : NoStar e) (ns2 : NoStar e2) (he : DE X cad W T e f) (he2 : DE X cad W T e2 g) :
    DI X cad W T (.Tuple elts kk tpos) (.Call (.Name "zip" p) [e, e2] [] pos) (f.bind fun x => (freeze x).bind fun d => g.bind fun y => (freeze y).bind fun e => (M.ofO (zipP d e)).bind fun ds => M.ret ds) := by
  refine ⟨.bind he.1 fun _ => .bind .freeze fun _ => .bind he2.1 fun _ => .bind .freeze fun _ => .bind .ofO fun _ => .ret, pi_bd (pi_zipA hr.gl hr.mg (pa_cons he.2 (pa_cons he2.2 pa_nil (ns2 _ _)) (ns _ _)) (ns _ _) (NoStars.cons ns2 .nil _ _)) fun σ H R ⟨H₀, B, Z, ρ, h⟩ => ?_⟩
  refine h.to he.1 fun x ρ1 v H1 le1 ev1 ⟨p1, sp1⟩ h1 => ?_
  obtain ⟨d, ρ2, le2, q2, h2⟩ := h1.freeze p1
  refine h2.to he2.1 fun y ρ3 w H3 le3 ev3 ⟨p3, sp3⟩ h4 => ?_
  obtain ⟨d', ρ4, le4, q4, h5⟩ := h4.freeze p3
  obtain ⟨ds, ed, h6⟩ := h5.ofO
  have q2' := (q2.step le3 ev3).step (le4.mono fun _ z => absurd z List.not_mem_nil) (Ev.refl (T := T))
  cases d with
  | list xs =>
    cases d' with
    | list ys =>
      cases ed
      obtain ⟨a, vs, rfl, t, r⟩ := Rp.lst_inv q2'
      obtain ⟨b, ws, rfl, t', r'⟩ := Rp.lst_inv q4
      have sq : SqL X.K H3 a vs := .inl (.inl t.1)
      refine ⟨a, b, vs, ws, rfl, .inl ⟨sq, .inl (.inl t'.1), fun b1 _ => h6.ret (.refl H3) ⟨.zipL a b vs ws, rfl, ⟨xs, ys, rfl, ⟨t, r⟩, t', r'⟩, ?_⟩⟩⟩
      have := b1 a vs sq
      rw [r.length] at this
      rw [zipD, List.length_zipWith]
      omega
    | _ => cases ed
  | tuple xs =>
    cases d' with
    | tuple ys =>
      cases ed
      obtain ⟨a, vs, rfl, t, r⟩ := Rp.tup_inv q2'
      obtain ⟨b, ws, rfl, t', r'⟩ := Rp.tup_inv q4
      refine ⟨a, b, vs, ws, rfl, .inr ⟨t.sq, t'.sq, fun _ b2 => h6.ret (.refl H3) ⟨.zipT a b vs ws, rfl, ⟨xs, ys, rfl, ⟨t, r⟩, t', r'⟩, ?_⟩⟩⟩
      have := b2 a vs t.sq
      rw [r.length] at this
      rw [zipD, List.length_zipWith]
      omega
    | _ => cases ed
  | _ => cases ed
end
end Gn

/-! Gn, part I: stores, comprehensions. -/
namespace Gn
open PySem PySem.Spec L2
open PyProof.Rows hiding St

section
variable {K : PySem.W.Frag} {H₀ : Hp} {B : Nat → Addr → Prop} {Z : Addr → Prop} {ρ ρ' : Env} {σ : St} {H H' : Hp} {v : V} {d : PD}
theorem st_set_self {σ : St} {i : Nat} {v : V} (h : i < σ.length) : (σ.set i (some v))[i]? = some (some v) := by rw [List.getElem?_set_self h]
theorem st_set_ne {σ : St} {i j : Nat} {x : Option V} (h : i ≠ j) : (σ.set i x)[j]? = σ[j]? := List.getElem?_set_ne h
theorem free_lt {i : Nat} (h : free ρ i = true) : i < ρ.length := by
  unfold free at h
  split at h
  · cases h
  · cases h
  · cases h
  · exact of_decide_eq_true h
theorem OO.put {i : Nat} {x : Vl} {a : Addr} (hi : i < ρ.length) (h : OO Z (ρ.set i (some x)) (σ.set i (some v)) a) (hl : ρ.length = σ.length) : OO Z ρ σ a ∨ (isOwn x = true ∧ v = .ref a) := by
  rcases h with h | ⟨j, y, h1, h2, h3⟩
  · exact .inl (.inl h)
  · by_cases hj : i = j
    · subst hj
      rw [getS_set_self hi] at h1; cases h1
      rw [st_set_self (by omega)] at h3; cases h3
      exact .inr ⟨h2, rfl⟩
    · rw [getS_set_ne hj] at h1
      rw [st_set_ne hj] at h3
      exact .inl (.inr ⟨j, y, h1, h2, h3⟩)
/-- a slot is given another value -/
theorem StOk.put (S : StOk K H₀ B Z ρ σ H) {i : Nat} {x : Vl} (r : RpF K H₀ B Z ρ σ H v (.v x)) (hf : free ρ i = true) : StOk K H₀ B Z (ρ.set i (some x)) (σ.set i (some v)) H := by
  have hi := free_lt hf
  have his : i < σ.length := by rw [← S.len]; exact hi
  match x, r with
  | .val d, ⟨r, _⟩ =>
    have m : ∀ a o, Tr (OO Z ρ σ) H a o → Tr (OO Z (ρ.set i (some (.val d))) (σ.set i (some v))) H a o := fun a o q => ⟨q.1, fun z => by
      rcases OO.put hi z S.len with z | ⟨z, _⟩
      · exact q.2 z
      · cases z⟩
    refine ⟨by rw [List.length_set, List.length_set]; exact S.len, S.keep, S.bt₀, S.btr, S.zok, fun j y f => ?_, fun j y c f1 f2 f3 => ?_, fun j k y z c f1 f2 f3 f4 f5 f6 => ?_⟩
    · by_cases hj : i = j
      · subst hj
        rw [getS_set_self hi] at f; cases f
        exact ⟨v, st_set_self his, Rp.mono m _ _ r⟩
      · rw [getS_set_ne hj] at f
        obtain ⟨w, g1, g2⟩ := S.slot j y f
        exact ⟨w, by rw [st_set_ne hj]; exact g1, g2.mono m fun _ _ _ _ q => q⟩
    · by_cases hj : i = j
      · subst hj
        rw [getS_set_self hi] at f1; cases f1; cases f2
      · rw [getS_set_ne hj] at f1
        rw [st_set_ne hj] at f3
        exact S.own j y c f1 f2 f3
    · by_cases hj : i = j
      · subst hj
        rw [getS_set_self hi] at f1; cases f1; cases f2
      · by_cases hk : i = k
        · subst hk
          rw [getS_set_self hi] at f3; cases f3; cases f4
        · rw [getS_set_ne hj] at f1
          rw [getS_set_ne hk] at f3
          rw [st_set_ne hj] at f5
          rw [st_set_ne hk] at f6
          exact S.inj j k y z c f1 f2 f3 f4 f5 f6
  | .own xs false, ⟨⟨a, vs, e, h1, h2, h3, h4⟩, sp⟩ =>
    have S' := sp a e
    have o' : ∀ c, OO Z (ρ.set i (some (.own xs false))) (σ.set i (some v)) c → OO Z ρ σ c ∨ c = a := fun c z => by
      rcases OO.put hi z S.len with z | ⟨_, z⟩
      · exact .inl z
      · rw [e] at z; cases z; exact .inr rfl
    have m : ∀ c o, Tr (OO (fun c => Z c ∨ c = a) ρ σ) H c o → Tr (OO Z (ρ.set i (some (.own xs false))) (σ.set i (some v))) H c o := fun c o q => ⟨q.1, fun z => by
      rcases o' c z with (z | z) | z
      · exact q.2 (.inl (.inl z))
      · exact q.2 (.inr z)
      · exact q.2 (.inl (.inr z))⟩
    have m2 : ∀ c o, Tr (OA (OO Z ρ σ) a) H c o → Tr (OO Z (ρ.set i (some (.own xs false))) (σ.set i (some v))) H c o := fun c o q => ⟨q.1, fun z => q.2 (o' c z)⟩
    have other : ∀ j y c, i ≠ j → getS ρ j = some y → isOwn y = true → σ[j]? = some (some (.ref c)) → c ≠ a := fun j y c _ g1 g2 g3 z => by
      subst z
      exact h3 (.inr ⟨j, y, g1, g2, g3⟩)
    refine ⟨by rw [List.length_set, List.length_set]; exact S.len, S.keep, S.bt₀, S.btr, S.zok, fun j y f => ?_, fun j y c f1 f2 f3 => ?_, fun j k y z c f1 f2 f3 f4 f5 f6 => ?_⟩
    · by_cases hj : i = j
      · subst hj
        rw [getS_set_self hi] at f; cases f
        exact ⟨v, st_set_self his, a, vs, e, h1, RpL.mono m2 _ _ h2⟩
      · rw [getS_set_ne hj] at f
        obtain ⟨w, g1, g2⟩ := S'.slot j y f
        exact ⟨w, by rw [st_set_ne hj]; exact g1, g2.mono m fun _ _ _ _ q => q⟩
    · by_cases hj : i = j
      · subst hj
        rw [getS_set_self hi] at f1; cases f1
        rw [st_set_self his, e] at f3; cases f3
        exact ⟨fun z => h3 (.inl z), h4⟩
      · rw [getS_set_ne hj] at f1
        rw [st_set_ne hj] at f3
        exact S.own j y c f1 f2 f3
    · by_cases hj : i = j
      · by_cases hk : i = k
        · exact hj.symm.trans hk
        · subst hj
          rw [st_set_self his, e] at f5; cases f5
          rw [getS_set_ne hk] at f3
          rw [st_set_ne hk] at f6
          exact absurd rfl (other k z a hk f3 f4 f6)
      · by_cases hk : i = k
        · subst hk
          rw [st_set_self his, e] at f6; cases f6
          rw [getS_set_ne hj] at f1
          rw [st_set_ne hj] at f5
          exact absurd rfl (other j y a hj f1 f2 f5)
        · rw [getS_set_ne hj] at f1
          rw [getS_set_ne hk] at f3
          rw [st_set_ne hj] at f5
          rw [st_set_ne hk] at f6
          exact S.inj j k y z c f1 f2 f3 f4 f5 f6
theorem putV_ok {i : Nat} {x : Vl} : putV i x ρ = .bad ∨ (free ρ i = true ∧ putV i x ρ = .ok () (ρ.set i (some x))) := by
  unfold putV
  cases e : free ρ i with
  | false => exact .inl rfl
  | true => exact .inr ⟨rfl, rfl⟩

/-! ### targets -/
def namesT : Tg → List Nat
  | .name i => [i]
  | .nil => []
  | .cons t ts => namesT t ++ namesT ts
def lenT : Tg → Nat
  | .cons _ ts => lenT ts + 1
  | _ => 0
mutual
def gR (K : PySem.W.Frag) : Tg → TG
  | .name i => gName i
  | .nil => gTup K 0 gNil
  | .cons t ts => gTup K (lenT ts + 1) (gCons (gR K t) (gsR K ts))
def gsR (K : PySem.W.Frag) : Tg → TGs
  | .nil => gNil
  | .cons t ts => gCons (gR K t) (gsR K ts)
  | .name _ => fun _ _ _ _ => False
end
/-- from (ρ, σ) to (ρ', σ') only slots of ns have changed, and they hold data -/
structure Chg (Z : Addr → Prop) (ns : List Nat) (ρ : Env) (σ : St) (ρ' : Env) (σ' : St) : Prop where
  l1 : ρ'.length = ρ.length
  l2 : σ'.length = σ.length
  same : ∀ j, j ∉ ns → getS ρ' j = getS ρ j ∧ σ'[j]? = σ[j]?
  data : ∀ j, j ∈ ns → ∀ y, getS ρ' j = some y → isOwn y = false
theorem Chg.oo {ns : List Nat} {σ' : St} (c : Chg Z ns ρ σ ρ' σ') {a : Addr} (h : OO Z ρ' σ' a) : OO Z ρ σ a := by
  rcases h with h | ⟨j, y, h1, h2, h3⟩
  · exact .inl h
  · by_cases hj : j ∈ ns
    · rw [c.data j hj y h1] at h2; cases h2
    · obtain ⟨e1, e2⟩ := c.same j hj
      rw [e1] at h1
      rw [e2] at h3
      exact .inr ⟨j, y, h1, h2, h3⟩
theorem Chg.refl : Chg Z [] ρ σ ρ σ := ⟨rfl, rfl, fun _ _ => ⟨rfl, rfl⟩, fun _ z => absurd z List.not_mem_nil⟩
theorem Chg.trans {ns ms : List Nat} {ρ1 : Env} {σ1 σ' : St} (c : Chg Z ns ρ σ ρ1 σ1) (c' : Chg Z ms ρ1 σ1 ρ' σ') : Chg Z (ns ++ ms) ρ σ ρ' σ' := by
  refine ⟨c'.l1.trans c.l1, c'.l2.trans c.l2, fun j hj => ?_, fun j hj => ?_⟩
  · have h1 : j ∉ ns := fun z => hj (List.mem_append_left _ z)
    have h2 : j ∉ ms := fun z => hj (List.mem_append_right _ z)
    exact ⟨(c'.same j h2).1.trans (c.same j h1).1, (c'.same j h2).2.trans (c.same j h1).2⟩
  · by_cases h2 : j ∈ ms
    · exact c'.data j h2
    · rcases List.mem_append.mp hj with h1 | h1
      · exact fun y e => c.data j h1 y ((c'.same j h2).1.symm.trans e)
      · exact absurd h1 h2
mutual
theorem asgD_ok : ∀ (t : Tg) (d : PD) (ρ : Env) (σ : St) (v : V), StOk K H₀ B Z ρ σ H → Rp K (OO Z ρ σ) H v d →
    asgD t d ρ = .bad ∨ ∃ ρ' σ', asgD t d ρ = .ok () ρ' ∧ StOk K H₀ B Z ρ' σ' H ∧ Chg Z (namesT t) ρ σ ρ' σ' ∧ ∀ Q, Q σ' H → gR K t v σ H Q
  | .name i, d, ρ, σ, v, S, r => by
    rcases putV_ok (ρ := ρ) (i := i) (x := .val d) with e | ⟨hf, e⟩
    · exact .inl (by simp only [asgD]; exact e)
    · have hi := free_lt hf
      refine .inr ⟨_, _, by simp only [asgD]; exact e, S.put (v := v) (x := .val d) ⟨r, trivial⟩ hf, ⟨List.length_set .., List.length_set .., fun j hj => ?_, fun j hj => ?_⟩, fun Q q => q⟩
      · have hne : i ≠ j := fun z => hj (by rw [z]; exact List.mem_singleton.mpr rfl)
        exact ⟨getS_set_ne hne, st_set_ne hne⟩
      · have hj : j ∈ [i] := hj
        rw [List.mem_singleton.mp hj]
        intro y e
        rw [getS_set_self hi] at e; cases e; rfl
  | .nil, d, ρ, σ, v, S, r => by
    match d, r with
    | .tuple [], r =>
      obtain ⟨a, vs, rfl, h1, h2⟩ := Rp.tup_inv r
      cases h2
      exact .inr ⟨ρ, σ, by simp only [asgD]; rfl, S, .refl, fun Q q => ⟨a, [], rfl, h1.sq, rfl, rfl, q⟩⟩
    | .tuple (_ :: _), _ => exact .inl (by simp only [asgD]; rfl)
    | .none, _ => exact .inl (by simp only [asgD]; rfl)
    | .bool _, _ => exact .inl (by simp only [asgD]; rfl)
    | .int _, _ => exact .inl (by simp only [asgD]; rfl)
    | .str _, _ => exact .inl (by simp only [asgD]; rfl)
    | .list _, _ => exact .inl (by simp only [asgD]; rfl)
  | .cons t ts, d, ρ, σ, v, S, r => by
    match d, r with
    | .tuple (d0 :: ds), r =>
      obtain ⟨a, vs, rfl, h1, h2⟩ := Rp.tup_inv r
      cases h2 with
      | cons r0 rl =>
        rename_i v0 vs0
        rcases asgD_ok t d0 ρ σ _ S r0 with e | ⟨ρ1, σ1, e, S1, c1, g1⟩
        · exact .inl (by simp only [asgD, M.bind, e])
        · have rl1 : RpL K (OO Z ρ1 σ1) H vs0 ds := RpL.mono (fun a o q => ⟨q.1, fun z => q.2 (c1.oo z)⟩) _ _ rl
          rcases asgL_ok ts ds ρ1 σ1 vs0 S1 rl1 with e2 | ⟨ρ2, σ2, e2, S2, c2, hl, g2⟩
          · exact .inl (by simp only [asgD, M.bind, e, e2])
          · refine .inr ⟨ρ2, σ2, by simp only [asgD, M.bind, e, e2], S2, c1.trans c2, fun Q q => ?_⟩
            exact ⟨a, v0 :: vs0, rfl, h1.sq, by rw [List.length_cons, rl.length, hl], v0, vs0, rfl, g1 _ (g2 _ q)⟩
    | .tuple [], _ => exact .inl (by simp only [asgD]; rfl)
    | .none, _ => exact .inl (by simp only [asgD]; rfl)
    | .bool _, _ => exact .inl (by simp only [asgD]; rfl)
    | .int _, _ => exact .inl (by simp only [asgD]; rfl)
    | .str _, _ => exact .inl (by simp only [asgD]; rfl)
    | .list _, _ => exact .inl (by simp only [asgD]; rfl)
theorem asgL_ok : ∀ (t : Tg) (ds : List PD) (ρ : Env) (σ : St) (vs : List V), StOk K H₀ B Z ρ σ H → RpL K (OO Z ρ σ) H vs ds →
    asgL t ds ρ = .bad ∨ ∃ ρ' σ', asgL t ds ρ = .ok () ρ' ∧ StOk K H₀ B Z ρ' σ' H ∧ Chg Z (namesT t) ρ σ ρ' σ' ∧ ds.length = lenT t ∧ ∀ Q, Q σ' H → gsR K t vs σ H Q
  | .name i, ds, ρ, σ, vs, S, r => .inl (by cases ds <;> rfl)
  | .nil, ds, ρ, σ, vs, S, r => by
    cases ds with
    | nil =>
      cases r
      exact .inr ⟨ρ, σ, by simp only [asgL]; rfl, S, .refl, rfl, fun Q q => ⟨rfl, q⟩⟩
    | cons _ _ => exact .inl (by simp only [asgL]; rfl)
  | .cons t ts, ds, ρ, σ, vs, S, r => by
    cases r with
    | nil => exact .inl (by simp only [asgL]; rfl)
    | cons r0 rl =>
      rename_i v0 vs0 d0 ds0
      rcases asgD_ok t d0 ρ σ _ S r0 with e | ⟨ρ1, σ1, e, S1, c1, g1⟩
      · exact .inl (by simp only [asgL, M.bind, e])
      · have rl1 : RpL K (OO Z ρ1 σ1) H vs0 ds0 := RpL.mono (fun a o q => ⟨q.1, fun z => q.2 (c1.oo z)⟩) _ _ rl
        rcases asgL_ok ts ds0 ρ1 σ1 vs0 S1 rl1 with e2 | ⟨ρ2, σ2, e2, S2, c2, hl, g2⟩
        · exact .inl (by simp only [asgL, M.bind, e, e2])
        · exact .inr ⟨ρ2, σ2, by simp only [asgL, M.bind, e, e2], S2, c1.trans c2, by rw [List.length_cons, hl]; rfl, fun Q q => ⟨v0, vs0, rfl, g1 _ (g2 _ q)⟩⟩
end

/-! ### a comprehension's own slots -/
theorem getS_set_none {ρ : Env} {i : Nat} : getS (ρ.set i none) i = none := by
  unfold getS
  by_cases h : i < ρ.length
  · rw [List.getElem?_set_self h]; rfl
  · rw [List.getElem?_eq_none (by rw [List.length_set]; omega)]; rfl
theorem wipeE_some : ∀ {vs : List Nat} {ρw : Env}, wipeE ρ vs = some ρw → ρw.length = ρ.length ∧ (∀ j, j ∉ vs → getS ρw j = getS ρ j) ∧ (∀ j, j ∈ vs → getS ρw j = none ∧ (getS ρ j = none ∨ ∃ d, getS ρ j = some (.val d)))
  | [], ρw, e => by
    simp only [wipeE, Option.some.injEq] at e
    subst e
    exact ⟨rfl, fun _ _ => rfl, fun _ z => absurd z List.not_mem_nil⟩
  | i :: is, ρw, e => by
    simp only [wipeE] at e
    cases e1 : wipeE ρ is with
    | none => rw [e1] at e; cases e
    | some ρ1 =>
      rw [e1] at e
      obtain ⟨l, h1, h2⟩ := wipeE_some e1
      have fin : (getS ρ i = none ∨ ∃ d, getS ρ i = some (.val d)) → ρw = ρ1.set i none → ρw.length = ρ.length ∧ (∀ j, j ∉ i :: is → getS ρw j = getS ρ j) ∧ (∀ j, j ∈ i :: is → getS ρw j = none ∧ (getS ρ j = none ∨ ∃ d, getS ρ j = some (.val d))) := fun hi e2 => by
        subst e2
        refine ⟨by rw [List.length_set]; exact l, fun j hj => ?_, fun j hj => ?_⟩
        · have a : i ≠ j := fun z => hj (by rw [z]; exact List.mem_cons_self ..)
          have b : j ∉ is := fun z => hj (List.mem_cons_of_mem _ z)
          rw [getS_set_ne a]; exact h1 j b
        · by_cases a : i = j
          · subst a; exact ⟨getS_set_none, hi⟩
          · rcases List.mem_cons.mp hj with z | z
            · exact absurd z.symm a
            · rw [getS_set_ne a]; exact h2 j z
      cases e2 : getS ρ i with
      | none => rw [e2] at e; cases e; exact fin (.inl e2) rfl
      | some y =>
        rw [e2] at e
        cases y with
        | val d => cases e; exact fin (.inr ⟨d, e2⟩) rfl
        | _ => cases e
theorem wipe_get {σ : St} : ∀ {vs : List Nat} {j : Nat}, j ∉ vs → (wipe σ vs)[j]? = σ[j]?
  | [], _, _ => rfl
  | i :: is, j, h => by
    have a : i ≠ j := fun z => h (by rw [z]; exact List.mem_cons_self ..)
    unfold wipe
    rw [List.getElem?_set_ne a]
    exact wipe_get fun z => h (List.mem_cons_of_mem _ z)
theorem wipe_in {σ : St} : ∀ {vs : List Nat} {j : Nat}, j ∈ vs → j < σ.length → (wipe σ vs)[j]? = some none
  | i :: is, j, h, hl => by
    unfold wipe
    by_cases a : i = j
    · subst a
      rw [List.getElem?_set_self (by rw [wipe_length]; exact hl)]
    · rw [List.getElem?_set_ne a]
      rcases List.mem_cons.mp h with z | z
      · exact absurd z.symm a
      · exact wipe_in z hl
theorem wipe_eq {σ σ' : St} {vs : List Nat} (hl : σ'.length = σ.length) (h : ∀ j, j ∉ vs → σ'[j]? = σ[j]?) : wipe σ' vs = wipe σ vs := by
  refine List.ext_getElem? fun j => ?_
  by_cases hj : j ∈ vs
  · by_cases hlt : j < σ.length
    · rw [wipe_in hj hlt, wipe_in hj (by omega)]
    · rw [List.getElem?_eq_none (by rw [wipe_length]; omega), List.getElem?_eq_none (by rw [wipe_length]; omega)]
  · rw [wipe_get hj, wipe_get hj, h j hj]
theorem wipe_at {σ σ' : St} {vs : List Nat} (h : wipe σ' vs = wipe σ vs) : σ'.length = σ.length ∧ ∀ j, j ∉ vs → σ'[j]? = σ[j]? := by
  refine ⟨by rw [← wipe_length σ' vs, ← wipe_length σ vs, h], fun j hj => ?_⟩
  have q : (wipe σ' vs)[j]? = (wipe σ vs)[j]? := by rw [h]
  rw [wipe_get hj, wipe_get hj] at q
  exact q
/-- a state told anew: each slot as one of two -/
theorem StOk.wiped (S : StOk K H₀ B Z ρ σ H) {vs : List Nat} {ρw : Env} (e : wipeE ρ vs = some ρw) : StOk K H₀ B Z ρw (wipe σ vs) H ∧ Chg Z vs ρ σ ρw (wipe σ vs) := by
  obtain ⟨l, h1, h2⟩ := wipeE_some e
  have c : Chg Z vs ρ σ ρw (wipe σ vs) := ⟨l, wipe_length σ vs, fun j hj => ⟨h1 j hj, wipe_get hj⟩, fun j hj y e => by rw [(h2 j hj).1] at e; cases e⟩
  have some_ : ∀ {j : Nat} {y : Vl}, getS ρw j = some y → getS ρ j = some y ∧ (wipe σ vs)[j]? = σ[j]? := fun {j y} f => by
    by_cases hj : j ∈ vs
    · rw [(h2 j hj).1] at f; cases f
    · exact ⟨(h1 j hj).symm.trans f, wipe_get hj⟩
  refine ⟨⟨by rw [wipe_length, l]; exact S.len, S.keep, S.bt₀, S.btr, S.zok, fun j y f => ?_, fun j y a f1 f2 f3 => ?_, fun j k y z a f1 f2 f3 f4 f5 f6 => ?_⟩, c⟩
  · obtain ⟨g1, g2⟩ := some_ f
    obtain ⟨v, k1, k2⟩ := S.slot j y g1
    exact ⟨v, g2.trans k1, k2.mono (fun a o q => ⟨q.1, fun z => q.2 (c.oo z)⟩) fun _ _ _ _ q => q⟩
  · obtain ⟨g1, g2⟩ := some_ f1
    exact S.own j y a g1 f2 (g2.symm.trans f3)
  · obtain ⟨g1, g2⟩ := some_ f1
    obtain ⟨g3, g4⟩ := some_ f3
    exact S.inj j k y z a g1 f2 g3 f4 (g2.symm.trans f5) (g4.symm.trans f6)
/-- the comprehension's new list is rewritten -/
theorem StOk.updZ {D : Addr} (S : StOk K H₀ B Z ρ σ H) (hz : Z D) (h0 : H₀ D = none) (vs' : List V) : StOk K H₀ B Z ρ σ (upd H D (.lst vs')) ∧ ∀ a o, Tr (OO Z ρ σ) H a o → Tr (OO Z ρ σ) (upd H D (.lst vs')) a o := by
  have m : ∀ a o, Tr (OO Z ρ σ) H a o → Tr (OO Z ρ σ) (upd H D (.lst vs')) a o := fun a o q => by
    have ne : a ≠ D := fun z => q.2 (.inl (by rw [z]; exact hz))
    exact ⟨by rw [upd_ne ne]; exact q.1, q.2⟩
  have tr : ∀ a, (∃ o, H a = some o) → ∃ o, upd H D (.lst vs') a = some o := fun a ⟨o, e⟩ => by
    by_cases ha : a = D
    · subst ha; exact ⟨_, upd_same⟩
    · exact ⟨o, by rw [upd_ne ha]; exact e⟩
  refine ⟨⟨S.len, fun a o e n => ?_, S.bt₀, fun i a b => tr a (S.btr i a b), fun a z => ⟨tr a (S.zok a z).1, (S.zok a z).2⟩, fun i x e => ?_, S.own, S.inj⟩, m⟩
  · have ne : a ≠ D := fun z => by rw [z, h0] at e; cases e
    rw [upd_ne ne]; exact S.keep a o e n
  · obtain ⟨v, e1, r⟩ := S.slot i x e
    refine ⟨v, e1, r.mono m fun a us ho ea q => ?_⟩
    have ne : a ≠ D := fun z => by
      subst z
      rw [ea] at e1
      exact (S.own i x _ e ho e1).1 hz
    rw [upd_ne ne]; exact q

/-- what stands through a comprehension's turns -/
structure CInv (K : PySem.W.Frag) (H₀ : Hp) (B : Nat → Addr → Prop) (Z : Addr → Prop) (T vs : List Nat) (ρ1 : Env) (σ : St) (H1 : Hp) (D : Addr) (s : Src) (ds : List PD) (i : Nat) (ρi : Env) (σi : St) (H : Hp) (acc : List V) (ys : List PD) : Prop where
  w : wipe σi vs = wipe σ vs
  sl : ∀ j, j ∉ vs → SlLe j T (getS ρ1 j) (getS ρi j)
  len : ρi.length = ρ1.length
  st : StOk K H₀ B (fun c => Z c ∨ c = D) ρi σi H
  hd : H D = some (.lst acc)
  rl : RpL K (OO (fun c => Z c ∨ c = D) ρi σi) H acc ys
  al : acc.length ≤ i
  ok : s.Ok K (OO (fun c => Z c ∨ c = D) ρi σi) H ds
  ev : Ev T ρ1 σ H1 H
  vv : (∀ j, j ∈ vs → getS ρi j = getS ρ1 j ∧ σi[j]? = σ[j]?) ∨ ((∀ j, j ∈ vs → getS ρ1 j = none ∨ ∃ d, getS ρ1 j = some (.val d)) ∧ ∀ j, j ∈ vs → ∀ y, getS ρi j = some y → isOwn y = false)
section
variable {T vs : List Nat} {ρ1 ρi ρ2 ρ3 : Env} {σi σ2 : St} {H1 H2 H3 : Hp} {D : Addr} {s : Src} {ds : List PD} {i : Nat} {acc : List V} {ys : List PD}
/-- what a slot owns within it owned ahead -/
theorem CInv.own (c : CInv K H₀ B Z T vs ρ1 σ H1 D s ds i ρi σi H acc ys) {j : Nat} {y : Vl} {a : Addr} (h1 : getS ρi j = some y) (h2 : isOwn y = true) (h3 : σi[j]? = some (some (.ref a))) : ∃ x, getS ρ1 j = some x ∧ isOwn x = true ∧ σ[j]? = some (some (.ref a)) := by
  by_cases hj : j ∈ vs
  · rcases c.vv with v | v
    · exact ⟨y, (v j hj).1.symm.trans h1, h2, (v j hj).2.symm.trans h3⟩
    · rw [v.2 j hj y h1] at h2; cases h2
  · have q := c.sl j hj
    rw [h1] at q
    obtain ⟨x, e, ho, _⟩ := q.own h2
    exact ⟨x, e, ho, ((wipe_at c.w).2 j hj).symm.trans h3⟩
/-- the turn's start: the item is stored -/
theorem CInv.turn (c : CInv K H₀ B Z T vs ρ1 σ H1 D s ds i ρi σi H acc ys) {ρw : Env} {t : Tg} {d : PD} {x : V} (hns : ∀ j, j ∈ namesT t → j ∈ vs) (sm : Same H H2) (r : Rp K (OO (fun c => Z c ∨ c = D) ρi σi) H2 x d) (e : wipeE ρi vs = some ρw) :
    asgD t d ρw = .bad ∨ ∃ ρ2 σ2, asgD t d ρw = .ok () ρ2 ∧ CInv K H₀ B Z T vs ρ1 σ H1 D s ds i ρ2 σ2 H2 acc ys ∧ (∀ Q, Q σ2 H2 → gR K t x (wipe σ vs) H2 Q) ∧ (∀ j, j ∈ vs → getS ρ1 j = none ∨ ∃ d, getS ρ1 j = some (.val d)) ∧ ∀ j, j ∈ vs → ∀ y, getS ρ2 j = some y → isOwn y = false := by
  obtain ⟨Sw, cw⟩ := (c.st.same sm).wiped e
  have r' : Rp K (OO (fun c => Z c ∨ c = D) ρw (wipe σi vs)) H2 x d := Rp.mono (fun a o q => ⟨q.1, fun z => q.2 (cw.oo z)⟩) d x r
  rcases asgD_ok t d ρw _ x Sw r' with e2 | ⟨ρ2, σ2, e2, S2, c2, g2⟩
  · exact .inl e2
  · obtain ⟨l, w1, w2⟩ := wipeE_some e
    have m : ∀ a o, Tr (OO (fun c => Z c ∨ c = D) ρi σi) H a o → Tr (OO (fun c => Z c ∨ c = D) ρ2 σ2) H2 a o := fun a o q => ⟨sm a o q.1, fun z => q.2 (cw.oo (c2.oo z))⟩
    have sm2 : ∀ j, j ∉ vs → getS ρ2 j = getS ρi j ∧ σ2[j]? = σi[j]? := fun j hj => by
      have hn : j ∉ namesT t := fun z => hj (hns j z)
      exact ⟨(c2.same j hn).1.trans (w1 j hj), (c2.same j hn).2.trans (wipe_get hj)⟩
    have q1 : ∀ j, j ∈ vs → getS ρ1 j = none ∨ ∃ d, getS ρ1 j = some (.val d) := fun j hj => by
      rcases c.vv with v | v
      · rw [← (v j hj).1]; exact (w2 j hj).2
      · exact v.1 j hj
    have q2 : ∀ j, j ∈ vs → ∀ y, getS ρ2 j = some y → isOwn y = false := fun j hj y hy => by
      by_cases hn : j ∈ namesT t
      · exact c2.data j hn y hy
      · rw [(c2.same j hn).1, (w2 j hj).1] at hy; cases hy
    exact .inr ⟨ρ2, σ2, e2, ⟨(wipe_eq (by rw [c2.l2, wipe_length]) fun j hj => (sm2 j hj).2).trans c.w, fun j hj => by rw [(sm2 j hj).1]; exact c.sl j hj, c2.l1.trans (l.trans c.len), S2, sm D _ c.hd, RpL.mono m _ _ c.rl, c.al, c.ok.mono m, fun a o h1 h2 => sm a o (c.ev a o h1 h2), .inr ⟨q1, q2⟩⟩, by rw [← c.w]; exact g2, q1, q2⟩
/-- an evaluation within the turn -/
theorem CInv.eval (c : CInv K H₀ B Z T vs ρ1 σ H1 D s ds i ρ2 σ2 H2 acc ys) (le : EnvLe T ρ2 ρ3) (ev : Ev T ρ2 σ2 H2 H3) (S : StOk K H₀ B (fun c => Z c ∨ c = D) ρ3 σ2 H3) (hr : (∀ j, j ∈ vs → getS ρ1 j = none ∨ ∃ d, getS ρ1 j = some (.val d))) (hv : ∀ j, j ∈ vs → ∀ y, getS ρ2 j = some y → isOwn y = false) :
    CInv K H₀ B Z T vs ρ1 σ H1 D s ds i ρ3 σ2 H3 acc ys ∧ ∀ j, j ∈ vs → ∀ y, getS ρ3 j = some y → isOwn y = false := by
  have m := ev.tr le (Z := fun c => Z c ∨ c = D)
  have hv3 : ∀ j, j ∈ vs → ∀ y, getS ρ3 j = some y → isOwn y = false := fun j hj y hy => by
    cases ho : isOwn y with
    | false => rfl
    | true =>
      have q := le.2 j
      rw [hy] at q
      obtain ⟨x, e, hx, _⟩ := q.own ho
      rw [hv j hj x e] at hx; cases hx
  have nd : ¬ ∃ k ∈ T, ∃ x, getS ρ2 k = some x ∧ isOwn x = true ∧ σ2[k]? = some (some (.ref D)) := fun ⟨k, _, x, e1, e2, e3⟩ => (c.st.own k x D e1 e2 e3).1 (.inr rfl)
  refine ⟨⟨c.w, fun j hj => (c.sl j hj).trans (le.2 j), le.1.trans c.len, S, ev D _ c.hd nd, RpL.mono m _ _ c.rl, c.al, c.ok.mono m, fun a o h1 h2 => ev a o (c.ev a o h1 h2) fun ⟨k, hk, x, e1, e2, e3⟩ => ?_, .inr ⟨hr, hv3⟩⟩, hv3⟩
  obtain ⟨x', a1, a2, a3⟩ := c.own e1 e2 e3
  exact h2 ⟨k, hk, x', a1, a2, a3⟩
/-- one more item -/
theorem CInv.push (c : CInv K H₀ B Z T vs ρ1 σ H1 D s ds i ρ2 σ2 H2 acc ys) (h0 : H₀ D = none) (h1 : H1 D = none) {y : V} {d : PD} (r : Rp K (OO (fun c => Z c ∨ c = D) ρ2 σ2) H2 y d) : CInv K H₀ B Z T vs ρ1 σ H1 D s ds (i + 1) ρ2 σ2 (upd H2 D (.lst (acc ++ [y]))) (acc ++ [y]) (ys ++ [d]) := by
  obtain ⟨S, m⟩ := c.st.updZ (D := D) (.inr rfl) h0 (acc ++ [y])
  refine ⟨c.w, c.sl, c.len, S, upd_same, RpL.mono m _ _ (c.rl.append (.cons r .nil)), by rw [List.length_append, List.length_singleton]; have := c.al; omega, c.ok.mono m, fun a o e n => ?_, c.vv⟩
  have ne : a ≠ D := fun z => by rw [z, h1] at e; cases e
  rw [upd_ne ne]; exact c.ev a o e n
theorem CInv.skip (c : CInv K H₀ B Z T vs ρ1 σ H1 D s ds i ρ2 σ2 H2 acc ys) : CInv K H₀ B Z T vs ρ1 σ H1 D s ds (i + 1) ρ2 σ2 H2 acc ys := ⟨c.w, c.sl, c.len, c.st, c.hd, c.rl, Nat.le_succ_of_le c.al, c.ok, c.ev, c.vv⟩

theorem backE_get : ∀ {vs : List Nat} {ρ ρ' : Env}, ρ'.length = ρ.length → (backE ρ ρ' vs).length = ρ.length ∧ (∀ j, j ∉ vs → getS (backE ρ ρ' vs) j = getS ρ' j) ∧ ∀ j, j ∈ vs → getS (backE ρ ρ' vs) j = getS ρ j
  | [], ρ, ρ', h => ⟨h, fun _ _ => rfl, fun _ z => absurd z List.not_mem_nil⟩
  | i :: is, ρ, ρ', h => by
    obtain ⟨l, h1, h2⟩ := backE_get (vs := is) h
    unfold backE
    refine ⟨by rw [List.length_set]; exact l, fun j hj => ?_, fun j hj => ?_⟩
    · have a : i ≠ j := fun z => hj (by rw [z]; exact List.mem_cons_self ..)
      rw [getS_set_ne a]
      exact h1 j fun z => hj (List.mem_cons_of_mem _ z)
    · by_cases a : i = j
      · subst a
        by_cases hl : i < ρ.length
        · exact getS_set_self (by rw [l]; exact hl)
        · have e0 : getS ρ i = none := by
            unfold getS
            rw [List.getElem?_eq_none (by omega)]; rfl
          rw [e0]
          unfold getS
          rw [List.getElem?_eq_none (by rw [List.length_set, l]; omega)]; rfl
      · rw [getS_set_ne a]
        rcases List.mem_cons.mp hj with z | z
        · exact absurd z.symm a
        · exact h2 j z
/-- behind the turns: the own slots as they stood -/
theorem CInv.fin (c : CInv K H₀ B Z T vs ρ1 σ H1 D s ds i ρi σi H acc ys) (S1 : StOk K H₀ B Z ρ1 σ H1) (hD : H1 D = none) :
    StOk K H₀ B Z (backE ρ1 ρi vs) σ H ∧ RpF K H₀ B Z (backE ρ1 ρi vs) σ H (.ref D) (.v (.own ys false)) := by
  obtain ⟨bl, b1, b2⟩ := backE_get (vs := vs) c.len
  have wa := wipe_at c.w
  -- each slot: as within, or data as ahead
  have two : ∀ j x, getS (backE ρ1 ρi vs) j = some x → (getS ρi j = some x ∧ σi[j]? = σ[j]?) ∨ ∃ d, x = .val d ∧ getS ρ1 j = some (.val d) := fun j x e => by
    by_cases hj : j ∈ vs
    · rw [b2 j hj] at e
      rcases c.vv with v | v
      · exact .inl ⟨(v j hj).1.trans e, (v j hj).2⟩
      · rcases v.1 j hj with q | ⟨d, q⟩
        · rw [q] at e; cases e
        · rw [q] at e; cases e
          exact .inr ⟨d, rfl, q⟩
    · rw [b1 j hj] at e
      exact .inl ⟨e, wa.2 j hj⟩
  have two' : ∀ j x, getS (backE ρ1 ρi vs) j = some x → isOwn x = true → getS ρi j = some x ∧ σi[j]? = σ[j]? := fun j x e ho => by
    rcases two j x e with q | ⟨d, rfl, _⟩
    · exact q
    · cases ho
  have oo : ∀ a, OO (fun c => Z c ∨ c = D) (backE ρ1 ρi vs) σ a → OO (fun c => Z c ∨ c = D) ρi σi a := fun a h => by
    rcases h with h | ⟨j, x, h1, h2, h3⟩
    · exact .inl h
    · obtain ⟨g1, g2⟩ := two' j x h1 h2
      exact .inr ⟨j, x, g1, h2, g2.trans h3⟩
  have oo1 : ∀ a, OO (fun c => Z c ∨ c = D) ρi σi a → OO Z ρ1 σ a ∨ a = D := fun a h => by
    rcases h with (h | h) | ⟨j, x, h1, h2, h3⟩
    · exact .inl (.inl h)
    · exact .inr h
    · obtain ⟨x', g1, g2, g3⟩ := c.own h1 h2 h3
      exact .inl (.inr ⟨j, x', g1, g2, g3⟩)
  have mA : ∀ a o, Tr (OO (fun c => Z c ∨ c = D) ρi σi) H a o → Tr (OO (fun c => Z c ∨ c = D) (backE ρ1 ρi vs) σ) H a o := fun a o q => ⟨q.1, fun z => q.2 (oo a z)⟩
  have mB : ∀ a o, Tr (OO Z ρ1 σ) H1 a o → Tr (OO (fun c => Z c ∨ c = D) (backE ρ1 ρi vs) σ) H a o := fun a o q => by
    refine ⟨c.ev a o q.1 fun ⟨k, _, x, e1, e2, e3⟩ => q.2 (.inr ⟨k, x, e1, e2, e3⟩), fun z => ?_⟩
    rcases oo1 a (oo a z) with z | z
    · exact q.2 z
    · have q1 := q.1
      rw [z, hD] at q1; cases q1
  have S2 : StOk K H₀ B (fun c => Z c ∨ c = D) (backE ρ1 ρi vs) σ H := by
    refine ⟨by rw [bl]; exact S1.len, c.st.keep, c.st.bt₀, c.st.btr, c.st.zok, fun j x e => ?_, fun j x a e ho hs => ?_, fun j k x y a e1 o1 e2 o2 h1 h2 => ?_⟩
    · rcases two j x e with ⟨g1, g2⟩ | ⟨d, rfl, g⟩
      · obtain ⟨v, k1, k2⟩ := c.st.slot j x g1
        exact ⟨v, g2.symm.trans k1, k2.mono mA fun _ _ _ _ q => q⟩
      · obtain ⟨v, k1, k2⟩ := S1.slot j _ g
        exact ⟨v, k1, Rp.mono mB d v k2⟩
    · obtain ⟨g1, g2⟩ := two' j x e ho
      exact c.st.own j x a g1 ho (g2.trans hs)
    · obtain ⟨g1, g2⟩ := two' j x e1 o1
      obtain ⟨g3, g4⟩ := two' k y e2 o2
      exact c.st.inj j k x y a g1 o1 g3 o2 (g2.trans h1) (g4.trans h2)
  refine ⟨S2.dropZ fun a z => .inl z, ⟨D, acc, rfl, c.hd, RpL.mono (fun a o q => ⟨q.1, fun z => ?_⟩) _ _ c.rl, fun z => ?_, S1.fresh₀ hD⟩, fun a e => ?_⟩
  · refine q.2 ?_
    rcases z with z | z
    · rcases z with z | ⟨j, x, h1, h2, h3⟩
      · exact .inl (.inl z)
      · exact oo a (.inr ⟨j, x, h1, h2, h3⟩)
    · exact .inl (.inr z)
  · have z' : OO (fun c => Z c ∨ c = D) (backE ρ1 ρi vs) σ D := z.imp (fun q => .inl q) id
    rcases z with z | ⟨j, x, h1, h2, h3⟩
    · exact S1.fresh hD (.inl z)
    · exact (S2.own j x D h1 h2 h3).1 (.inr rfl)
  · cases e; exact S2
end
end
section
variable {X : Cx} {cad : Nat → Option Addr} {W : WX} {T : List Nat}
/-- no exception is taken -/
abbrev W0 : WX := fun _ _ _ _ => False
theorem M.bind_ok {α β : Type} {m : M α} {f : α → M β} {ρ ρ' : Env} {b : β} (h : (m.bind f) ρ = .ok b ρ') : ∃ a ρ1, m ρ = .ok a ρ1 ∧ f a ρ1 = .ok b ρ' := by
  unfold M.bind at h
  split at h
  · exact ⟨_, _, by assumption, h⟩
  · cases h
  · cases h
theorem compL_cons {own : List Nat} {t : Tg} {c : M Bool} {el : M Rv} {d : PD} {ds : List PD} {ρ ρn : Env} {ys : List PD} (h : compL own t c el (d :: ds) ρ = .ok ys ρn) : ∃ ρw ρ2 k ρ3, wipeE ρ own = some ρw ∧ asgD t d ρw = .ok () ρ2 ∧ c ρ2 = .ok k ρ3 ∧
    if k = true then ∃ x ρ4 y ρ5 ys', el ρ3 = .ok x ρ4 ∧ freeze x ρ4 = .ok y ρ5 ∧ compL own t c el ds ρ5 = .ok ys' ρn ∧ ys = y :: ys' else compL own t c el ds ρ3 = .ok ys ρn := by
  simp only [compL] at h
  cases e1 : wipeE ρ own with
  | none => rw [e1] at h; cases h
  | some ρw =>
    rw [e1] at h
    dsimp only at h
    obtain ⟨u, ρ2, e2, h⟩ := M.bind_ok h
    obtain ⟨k, ρ3, e3, h⟩ := M.bind_ok h
    refine ⟨ρw, ρ2, k, ρ3, rfl, e2, e3, ?_⟩
    cases k with
    | false => exact h
    | true =>
      rw [if_pos rfl] at h ⊢
      obtain ⟨x, ρ4, e4, h⟩ := M.bind_ok h
      obtain ⟨y, ρ5, e5, h⟩ := M.bind_ok h
      obtain ⟨ys', ρ6, e6, h⟩ := M.bind_ok h
      cases h
      exact ⟨x, ρ4, y, ρ5, ys', e4, e5, e6, rfl⟩
theorem putV_le {i : Nat} {x : Vl} {ρ ρ' : Env} (h : putV i x ρ = .ok () ρ') : ρ'.length = ρ.length ∧ ∀ j, j ≠ i → getS ρ' j = getS ρ j := by
  rcases putV_ok (ρ := ρ) (i := i) (x := x) with e | ⟨_, e⟩
  · rw [e] at h; cases h
  · rw [e] at h; cases h
    exact ⟨List.length_set .., fun j hj => getS_set_ne (Ne.symm hj)⟩
mutual
theorem asgD_le : ∀ {t : Tg} {d : PD} {ρ ρ' : Env}, asgD t d ρ = .ok () ρ' → ρ'.length = ρ.length ∧ ∀ j, j ∉ namesT t → getS ρ' j = getS ρ j
  | .name i, d, ρ, ρ', h => by
    simp only [asgD] at h
    obtain ⟨h1, h2⟩ := putV_le h
    exact ⟨h1, fun j hj => h2 j fun z => hj (by rw [z]; exact List.mem_singleton.mpr rfl)⟩
  | .nil, d, ρ, ρ', h => by
    match d, h with
    | .tuple [], h =>
      simp only [asgD] at h
      cases h
      exact ⟨rfl, fun _ _ => rfl⟩
    | .tuple (_ :: _), h => simp only [asgD] at h; cases h
    | .none, h => simp only [asgD] at h; cases h
    | .bool _, h => simp only [asgD] at h; cases h
    | .int _, h => simp only [asgD] at h; cases h
    | .str _, h => simp only [asgD] at h; cases h
    | .list _, h => simp only [asgD] at h; cases h
    | .dict _, h => simp only [asgD] at h; cases h
  | .cons t ts, d, ρ, ρ', h => by
    match d, h with
    | .tuple (d0 :: ds), h =>
      simp only [asgD] at h
      obtain ⟨u, ρ1, e1, h⟩ := M.bind_ok h
      obtain ⟨a1, a2⟩ := asgD_le e1
      obtain ⟨b1, b2⟩ := asgL_le h
      exact ⟨b1.trans a1, fun j hj => (b2 j fun z => hj (List.mem_append_right _ z)).trans (a2 j fun z => hj (List.mem_append_left _ z))⟩
    | .tuple [], h => simp only [asgD] at h; cases h
    | .none, h => simp only [asgD] at h; cases h
    | .bool _, h => simp only [asgD] at h; cases h
    | .int _, h => simp only [asgD] at h; cases h
    | .str _, h => simp only [asgD] at h; cases h
    | .list _, h => simp only [asgD] at h; cases h
    | .dict _, h => simp only [asgD] at h; cases h
theorem asgL_le : ∀ {t : Tg} {ds : List PD} {ρ ρ' : Env}, asgL t ds ρ = .ok () ρ' → ρ'.length = ρ.length ∧ ∀ j, j ∉ namesT t → getS ρ' j = getS ρ j
  | .name i, ds, ρ, ρ', h => by cases ds <;> cases h
  | .nil, [], ρ, ρ', h => by
    simp only [asgL] at h
    cases h
    exact ⟨rfl, fun _ _ => rfl⟩
  | .nil, _ :: _, ρ, ρ', h => by simp only [asgL] at h; cases h
  | .cons t ts, [], ρ, ρ', h => by simp only [asgL] at h; cases h
  | .cons t ts, d :: ds, ρ, ρ', h => by
    simp only [asgL] at h
    obtain ⟨u, ρ1, e1, h⟩ := M.bind_ok h
    obtain ⟨a1, a2⟩ := asgD_le e1
    obtain ⟨b1, b2⟩ := asgL_le h
    exact ⟨b1.trans a1, fun j hj => (b2 j fun z => hj (List.mem_append_right _ z)).trans (a2 j fun z => hj (List.mem_append_left _ z))⟩
end
theorem compL_le {vs : List Nat} {t : Tg} {c : M Bool} {el : M Rv} (hc : MOk T c) (he : MOk T el) (hns : ∀ j, j ∈ namesT t → j ∈ vs) : ∀ {ds : List PD} {ρ ρn : Env} {ys : List PD}, compL vs t c el ds ρ = .ok ys ρn → ρn.length = ρ.length ∧ ∀ j, j ∉ vs → SlLe j T (getS ρ j) (getS ρn j)
  | [], ρ, ρn, ys, h => by
    simp only [compL] at h
    cases h
    exact ⟨rfl, fun _ _ => .refl _⟩
  | d :: ds, ρ, ρn, ys, h => by
    obtain ⟨ρw, ρ2, k, ρ3, e1, e2, e3, h⟩ := compL_cons h
    obtain ⟨w1, w2, _⟩ := wipeE_some e1
    obtain ⟨a1, a2⟩ := asgD_le e2
    have l3 := hc.ok e3
    have base : ∀ j, j ∉ vs → SlLe j T (getS ρ j) (getS ρ3 j) := fun j hj => by
      have q := l3.2 j
      rw [a2 j fun z => hj (hns j z), w2 j hj] at q
      exact q
    have len : ρ3.length = ρ.length := l3.1.trans (a1.trans w1)
    cases k with
    | false =>
      rw [if_neg Bool.false_ne_true] at h
      obtain ⟨h1, h2⟩ := compL_le hc he hns h
      exact ⟨h1.trans len, fun j hj => (base j hj).trans (h2 j hj)⟩
    | true =>
      rw [if_pos rfl] at h
      obtain ⟨x, ρ4, y, ρ5, ys', e4, e5, e6, _⟩ := h
      have l4 := he.ok e4
      have l5 := (MOk.freeze (T := T) (x := x)).ok e5
      obtain ⟨h1, h2⟩ := compL_le hc he hns e6
      exact ⟨h1.trans (l5.1.trans (l4.1.trans len)), fun j hj => (((base j hj).trans (l4.2 j)).trans (l5.2 j)).trans (h2 j hj)⟩
theorem MOk.comp {vs : List Nat} {t : Tg} {c : M Bool} {el : M Rv} {ds : List PD} (hc : MOk T c) (he : MOk T el) (hns : ∀ j, j ∈ namesT t → j ∈ vs) : MOk T (compM vs t c el ds) := fun ρ => by
  unfold compM
  cases e : compL vs t c el ds ρ with
  | bad => trivial
  | ex _ _ => trivial
  | ok ys ρn =>
    obtain ⟨l, h⟩ := compL_le hc he hns e
    obtain ⟨bl, b1, b2⟩ := backE_get (vs := vs) l
    refine ⟨bl, fun j => ?_⟩
    by_cases hj : j ∈ vs
    · rw [b2 j hj]; exact .refl _
    · rw [b1 j hj]; exact h j hj
/-- a comprehension's reading is the library's -/
theorem comp_use {K : PySem.W.Frag} {tg iter : Expr} {vs : List Nat} {t : Tg} {src : M (List PD)} {c : M Bool} {el : M Rv} (hns : ∀ j, j ∈ namesT t → j ∈ vs) (ms : MOk T src) (mc : MOk T c) (me : MOk T el) {σ : St} {H : Hp} {Q : VK}
    (h : tW K cad W T (src.bind fun ds => compM vs t c el ds) (RpF K) σ H Q) : tLc (tW K cad W T src (PSrc K)) (gR K t) (tW K cad W0 T c PB) (tW K cad W0 T el (RpF K)) vs σ H Q := by
  obtain ⟨H₀, B, Z, ρ, h⟩ := h
  refine h.to ms fun ds ρ1 J H1 le1 ev1 p1 h1 => ?_
  obtain ⟨s, rfl, hok, hlen⟩ := p1
  intro D hD
  obtain ⟨S1, h1⟩ := h1
  unfold compM at h1
  cases e : compL vs t c el ds ρ1 with
  | bad => rw [e] at h1; exact h1.elim
  | ex _ _ => rw [e] at h1; exact h1.elim
  | ok ys ρn =>
    rw [e] at h1
    dsimp only at h1
    have h0 := S1.fresh₀ hD
    have hn := hok.n
    refine lc_it s.walk (fun i H => ∃ ρi σi acc ys1 ys2, CInv K H₀ B Z T vs ρ1 σ H1 D s ds i ρi σi H acc ys1 ∧ compL vs t c el (ds.drop i) ρi = .ok ys2 ρn ∧ ys = ys1 ++ ys2) ?_ (fun i H _ ⟨_, _, _, _, _, ci, _⟩ => ci.ok.g) (fun i x H2 H3 hi ⟨ρi, σi, acc, ys1, ys2, ci, e2, ey⟩ hy => ?_) fun H2 ⟨ρi, σi, acc, ys1, ys2, ci, e2, ey⟩ => ?_
    · refine ⟨ρ1, σ, [], [], ys, ⟨rfl, fun j _ => .refl _, rfl, S1.addF (same_new hD) hD ⟨_, upd_same⟩, upd_same, .nil, Nat.le_refl _, ?_, Ev.of_same (same_new hD), .inl fun _ _ => ⟨rfl, rfl⟩⟩, e, rfl⟩
      refine hok.mono fun a o q => ⟨same_new hD a o q.1, fun z => ?_⟩
      rcases z with (z | z) | z
      · exact q.2 (.inl z)
      · have q1 := q.1
        rw [z, hD] at q1; cases q1
      · exact q.2 (.inr z)
    · have hi' : i < ds.length := by rw [← hn]; exact hi
      have hdrop : ds.drop i = ds[i] :: ds.drop (i + 1) := List.drop_eq_getElem_cons hi'
      rw [hdrop] at e2
      obtain ⟨ρw, ρ2, k, ρ3, w1, w2, w3, e3⟩ := compL_cons e2
      obtain ⟨sm, d, ed, r⟩ := ci.ok.step (fun a z => ci.st.tracked z) hi hy
      have ed' : d = ds[i] := by
        rw [List.getElem?_eq_getElem hi'] at ed; cases ed; rfl
      subst ed'
      rcases ci.turn hns sm r w1 with e4 | ⟨ρ2', σ2, e4, c2, g2, rr⟩
      · rw [e4] at w2; cases w2
      · rw [e4] at w2; cases w2
        refine g2 _ ⟨c2.w, ?_⟩
        refine ⟨H₀, B, fun c => Z c ∨ c = D, ρ2, c2.st, ?_⟩
        rw [w3]
        intro k' H4 S4 ev4 ek
        have ek : k' = k := ek
        subst ek
        obtain ⟨c4, hv4⟩ := c2.eval (mc.ok w3) ev4 S4 rr.1 rr.2
        cases k' with
        | false =>
          rw [if_neg Bool.false_ne_true] at e3 ⊢
          exact ⟨ρ3, σ2, acc, ys1, ys2, c4.skip, e3, ey⟩
        | true =>
          rw [if_pos rfl] at e3 ⊢
          obtain ⟨z, ρ4, y, ρ5, ys', a1, a2, a3, a4⟩ := e3
          refine ⟨H₀, B, fun c => Z c ∨ c = D, ρ3, c4.st, ?_⟩
          rw [a1]
          intro v H5 S5 ev5 rz
          obtain ⟨c5, hv5⟩ := c4.eval (me.ok a1) ev5 S5 rr.1 hv4
          rcases freeze_ok S5 rz.1 with a5 | ⟨y', ρ5', a5, l5, S6, r6⟩
          · rw [a5] at a2; cases a2
          · rw [a5] at a2; cases a2
            obtain ⟨c6, hv6⟩ := c5.eval (l5.mono fun _ z => absurd z List.not_mem_nil) Ev.refl S6 rr.1 hv5
            refine ⟨acc, c6.hd, Nat.lt_of_le_of_lt ci.al (Nat.lt_of_lt_of_le hi' hlen), ρ5, σ2, acc ++ [v], ys1 ++ [y], ys', c6.push h0 hD r6, a3, ?_⟩
            rw [ey, a4, List.append_assoc]; rfl
    · rw [hn, List.drop_length] at e2
      simp only [compL] at e2
      cases e2
      rw [List.append_nil] at ey
      subst ey
      obtain ⟨f1, f2⟩ := ci.fin S1 hD
      exact h1 _ _ f1 ci.ev f2
theorem DE.comp {elt tg iter : Expr} {ifs : List Expr} {scope : Scope} {own : List (Str × Nat)} {pos : Pos} {t : Tg} {src : M (List PD)} {c : M Bool} {el : M Rv} (hcm : X.calm = true) (hN : X.N.Nodup) (ok : BlkOk X.N X.env.scope scope own) (hns : ∀ j, j ∈ namesT t → j ∈ own.map (·.2))
    (hs : ∀ x, foldedSetIterable iter X.env x = pure x) (hi : DI X cad W T tg iter src)
    (hg : ∀ (s : Shared) (H : Hp) (C : Addr) (cl : List (Str × Addr)) (fp : List Addr), PG (X.blk s H scope (compEnvC scope cl C X.env) fp) tg (gR X.K t))
    (mc : MOk T c) (ht : ∀ (s : Shared) (H : Hp) (C : Addr) (cl : List (Str × Addr)) (fp : List Addr), PTs (X.blk s H scope (compEnvC scope cl C X.env) fp) ifs (tW X.K cad W0 T c PB))
    (me : MOk T el) (he : ∀ (s : Shared) (H : Hp) (C : Addr) (cl : List (Str × Addr)) (fp : List Addr), PE (X.blk s H scope (compEnvC scope cl C X.env) fp) elt (tW X.K cad W0 T el (RpF X.K))) :
    DE X cad W T (.ListComp elt [⟨tg, iter, ifs, 0⟩] scope pos) (src.bind fun ds => compM (own.map (·.2)) t c el ds) :=
  ⟨.bind hi.1 fun ds => .comp mc me hns, pe_of (pe_lc hcm hN hi.2 ok hg ht he hs) fun σ H Q h => comp_use (tg := tg) (iter := iter) hns hi.1 mc me h⟩
end
end Gn

/-! Gn, part J: calls. -/
namespace Gn
open PySem PySem.Spec L2
open PyProof.Rows hiding St

/-- an argument as it stands for a parameter; O: the lists that may still change -/
def ArgOk (K : PySem.W.Frag) (O : Addr → Prop) (H : Hp) (v : V) : Vl → Prop
  | .val d => Rp K O H v d
  | .own xs true => ∃ a us, v = .ref a ∧ H a = some (.lst us) ∧ RpL K O H us xs ∧ O a
  | .lok xs => ∃ a us, v = .ref a ∧ Lk K O H a us ∧ RpL K O H us xs
  | _ => False
def ArgsOk (K : PySem.W.Frag) (O : Addr → Prop) (H : Hp) : List V → List Vl → Prop
  | [], [] => True
  | v :: vs, x :: xs => ArgOk K O H v x ∧ ArgsOk K O H vs xs
  | _, _ => False
/-- the lists that are lent -/
def Lnt (vs : List V) (args : List Vl) (a : Addr) : Prop := ∃ (i : Nat) (xs : List PD), args[i]? = some (.own xs true) ∧ vs[i]? = some (.ref a)
/-- a call's end: O' are the lists that may still change -/
structure CallEnd (K : PySem.W.Frag) (O : Addr → Prop) (H : Hp) (vs : List V) (args : List Vl) (outs : List (Option Vl)) (O' : Addr → Prop) (H' : Hp) : Prop where
  keep : ∀ a o, H a = some o → ¬ Lnt vs args a → H' a = some o
  there : ∀ a, Lnt vs args a → ∃ o, H' a = some o
  up : ∀ a, O' a → O a ∨ H a = none
  rest : ∀ a, O a → ¬ Lnt vs args a → O' a
  outs : ∀ (i : Nat) (xs ys : List PD) (a : Addr), args[i]? = some (.own xs true) → outs[i]? = some (some (.own ys true)) → vs[i]? = some (.ref a) → O' a ∧ ∃ us, H' a = some (.lst us) ∧ RpL K O' H' us ys
def ResOk (K : PySem.W.Frag) (H : Hp) (O' : Addr → Prop) (H' : Hp) (v : V) : Vl → Prop
  | .val d => Rp K O' H' v d
  | .own ys false => ∃ a us, v = .ref a ∧ H a = none ∧ H' a = some (.lst us) ∧ RpL K O' H' us ys ∧ O' a
  | _ => False
def spF (K : PySem.W.Frag) (cad : Nat → Option Addr) (g : List Vl → FRes) (np : Nat) : Sp := fun vs H Q E => vs.length = np ∧ ∃ O args, Tk O H ∧ ArgsOk K O H vs args ∧
  (∀ (i j : Nat) (xs ys : List PD) (a : Addr), args[i]? = some (.own xs true) → args[j]? = some (.own ys true) → vs[i]? = some (.ref a) → vs[j]? = some (.ref a) → i = j) ∧
  match g args with
  | .ok x outs => ∀ v H' O', CallEnd K O H vs args outs O' H' → ResOk K H O' H' v x → Q v H'
  | .ex c => ∀ cl d H', (∀ a o, H a = some o → ¬ Lnt vs args a → H' a = some o) → (∀ a, Lnt vs args a → ∃ o, H' a = some o) → ExIs cad c cl d H' → E cl d H'
  | .bad => False
section
variable {K : PySem.W.Frag} {O : Addr → Prop} {H : Hp}
theorem ArgsOk.len : ∀ {vs : List V} {args : List Vl}, ArgsOk K O H vs args → vs.length = args.length
  | [], [], _ => rfl
  | _ :: _, _ :: _, h => congrArg (· + 1) (ArgsOk.len h.2)
theorem ArgsOk.get : ∀ {vs : List V} {args : List Vl} {i : Nat} {x : Vl}, ArgsOk K O H vs args → args[i]? = some x → ∃ v, vs[i]? = some v ∧ ArgOk K O H v x
  | [], [], _, _, _, e => by simp at e
  | v :: vs, x :: xs, 0, y, h, e => by
    simp only [List.getElem?_cons_zero, Option.some.injEq] at e
    subst e
    exact ⟨v, rfl, h.1⟩
  | v :: vs, x :: xs, i + 1, y, h, e => by
    obtain ⟨w, h1, h2⟩ := ArgsOk.get (i := i) h.2 (by simpa using e)
    exact ⟨w, by simpa using h1, h2⟩
end

/-! ### the caller -/
/-- the arguments that are handed -/
def PArs (K : PySem.W.Frag) (O : Addr → Prop) (σ : St) (H : Hp) : List V → List AR → Prop
  | [], [] => True
  | v :: vs, a :: as => (match a with
    | .val d => Rp K O H v d
    | .ref i => σ[i]? = some (some v)) ∧ PArs K O σ H vs as
  | _, _ => False
section
variable {K : PySem.W.Frag} {H₀ : Hp} {B : Nat → Addr → Prop} {Z : Addr → Prop} {ρ : Env} {σ : St} {H H' : Hp}
theorem backA_len : ∀ {as : List AR} {os : List (Option Vl)}, (backA ρ as os).length = ρ.length
  | [], _ => rfl
  | .val _ :: r, os => by simp only [backA]; exact backA_len
  | .ref i :: r, os => by simp only [backA]; rw [List.length_set]; exact backA_len
theorem backA_out : ∀ {as : List AR} {os : List (Option Vl)} {j : Nat}, j ∉ lentOf as → getS (backA ρ as os) j = getS ρ j
  | [], _, _, _ => rfl
  | .val _ :: r, os, j, h => by simp only [backA]; exact backA_out h
  | .ref i :: r, os, j, h => by
    simp only [backA]
    have a : i ≠ j := fun z => h (by rw [z]; exact List.mem_cons_self ..)
    rw [getS_set_ne a]
    exact backA_out fun z => h (List.mem_cons_of_mem _ z)
theorem lent_mem : ∀ {as : List AR} {k j : Nat}, as[k]? = some (.ref j) → j ∈ lentOf as
  | [], k, j, h => by simp at h
  | .val _ :: r, 0, j, h => by simp at h
  | .val _ :: r, k + 1, j, h => by
    simp only [lentOf]
    exact lent_mem (k := k) (by simpa using h)
  | .ref i :: r, 0, j, h => by
    simp only [List.getElem?_cons_zero, Option.some.injEq, AR.ref.injEq] at h
    subst h
    exact List.mem_cons_self ..
  | .ref i :: r, k + 1, j, h => List.mem_cons_of_mem _ (lent_mem (k := k) (by simpa using h))
theorem mem_lent : ∀ {as : List AR} {j : Nat}, j ∈ lentOf as → ∃ k : Nat, as[k]? = some (.ref j)
  | [], j, h => absurd h List.not_mem_nil
  | .val _ :: r, j, h => by
    obtain ⟨k, e⟩ := mem_lent (as := r) h
    exact ⟨k + 1, by simpa using e⟩
  | .ref i :: r, j, h => by
    rcases List.mem_cons.mp h with z | z
    · exact ⟨0, by rw [z]; rfl⟩
    · obtain ⟨k, e⟩ := mem_lent z
      exact ⟨k + 1, by simpa using e⟩
theorem lent_inj : ∀ {as : List AR} {i k j : Nat}, (lentOf as).Nodup → as[i]? = some (.ref j) → as[k]? = some (.ref j) → i = k
  | [], i, k, j, _, h, _ => by simp at h
  | .val _ :: r, 0, k, j, _, h, _ => by simp at h
  | .val _ :: r, i + 1, 0, j, _, _, h => by simp at h
  | .val _ :: r, i + 1, k + 1, j, nd, h, h' => congrArg (· + 1) (lent_inj (as := r) nd (by simpa using h) (by simpa using h'))
  | .ref _ :: r, 0, 0, j, _, _, _ => rfl
  | .ref a :: r, 0, k + 1, j, nd, h, h' => by
    simp only [List.getElem?_cons_zero, Option.some.injEq, AR.ref.injEq] at h
    subst h
    exact absurd (lent_mem (as := r) (k := k) (by simpa using h')) (List.nodup_cons.mp nd).1
  | .ref a :: r, i + 1, 0, j, nd, h, h' => by
    simp only [List.getElem?_cons_zero, Option.some.injEq, AR.ref.injEq] at h'
    subst h'
    exact absurd (lent_mem (as := r) (k := i) (by simpa using h)) (List.nodup_cons.mp nd).1
  | .ref a :: r, i + 1, k + 1, j, nd, h, h' => congrArg (· + 1) (lent_inj (as := r) (List.nodup_cons.mp nd).2 (by simpa using h) (by simpa using h'))
theorem backA_in : ∀ {as : List AR} {os : List (Option Vl)} {k j : Nat}, (lentOf as).Nodup → as[k]? = some (.ref j) → j < ρ.length → getS (backA ρ as os) j = backS (getS ρ j) ((os[k]?).join)
  | [], _, k, j, _, h, _ => by simp at h
  | .val _ :: r, os, 0, j, _, h, _ => by simp at h
  | .val _ :: r, os, k + 1, j, nd, h, hl => by
    simp only [backA]
    rw [backA_in (as := r) (os := os.tail) (k := k) nd (by simpa using h) hl]
    congr 2
    cases os <;> simp
  | .ref i :: r, os, 0, j, nd, h, hl => by
    simp only [List.getElem?_cons_zero, Option.some.injEq, AR.ref.injEq] at h
    subst h
    simp only [backA]
    rw [getS_set_self (by rw [backA_len]; exact hl)]
    congr 1
    cases os <;> simp
  | .ref i :: r, os, k + 1, j, nd, h, hl => by
    have h' : r[k]? = some (.ref j) := by simpa using h
    have nd' : i ∉ lentOf r ∧ (lentOf r).Nodup := List.nodup_cons.mp nd
    have a : i ≠ j := fun z => nd'.1 (by rw [z]; exact lent_mem h')
    simp only [backA]
    rw [getS_set_ne a, backA_in (os := os.tail) (k := k) nd'.2 h' hl]
    congr 2
    cases os <;> simp
theorem arV_ref {j : Nat} {x : Vl} (h : arV ρ (.ref j) = some x) : (∃ xs b, getS ρ j = some (.own xs b) ∧ x = .own xs true) ∨ (∃ kvs b, getS ρ j = some (.dic kvs b)) ∨ ∃ xs, getS ρ j = some (.lok xs) ∧ x = .lok xs := by
  simp only [arV] at h
  cases e : getS ρ j with
  | none => rw [e] at h; cases h
  | some y =>
    rw [e] at h
    cases y with
    | val d => cases h
    | own xs b => cases h; exact .inl ⟨xs, b, rfl, rfl⟩
    | dic kvs b => exact .inr (.inl ⟨kvs, b, rfl⟩)
    | lok xs => cases h; exact .inr (.inr ⟨xs, rfl, rfl⟩)
theorem mapM_get {α β : Type} {f : α → Option β} : ∀ {as : List α} {bs : List β}, as.mapM f = some bs → (∀ (k : Nat) a, as[k]? = some a → ∃ b, bs[k]? = some b ∧ f a = some b) ∧ (∀ (k : Nat) b, bs[k]? = some b → ∃ a, as[k]? = some a ∧ f a = some b) := by
  intro as
  induction as with
  | nil =>
    intro bs h
    simp only [List.mapM_nil, Option.pure_def, Option.some.injEq] at h
    subst h
    exact ⟨fun k a e => by simp at e, fun k b e => by simp at e⟩
  | cons a as ih =>
    intro bs h
    rw [List.mapM_cons] at h
    cases e1 : f a with
    | none => rw [e1] at h; cases h
    | some b =>
      rw [e1] at h
      cases e2 : as.mapM f with
      | none => rw [e2] at h; cases h
      | some cs =>
        rw [e2] at h
        cases h
        obtain ⟨i1, i2⟩ := ih e2
        refine ⟨fun k x e => ?_, fun k x e => ?_⟩
        · cases k with
          | zero => simp at e; subst e; exact ⟨b, rfl, e1⟩
          | succ k => obtain ⟨c, c1, c2⟩ := i1 k x (by simpa using e); exact ⟨c, by simpa using c1, c2⟩
        · cases k with
          | zero => simp at e; subst e; exact ⟨a, rfl, e1⟩
          | succ k => obtain ⟨c, c1, c2⟩ := i2 k x (by simpa using e); exact ⟨c, by simpa using c1, c2⟩
theorem PArs.get : ∀ {O : Addr → Prop} {vs : List V} {as : List AR} {k : Nat} {a : AR}, PArs K O σ H vs as → as[k]? = some a → ∃ v, vs[k]? = some v ∧ (match a with
    | .val d => Rp K O H v d
    | .ref i => σ[i]? = some (some v))
  | _, [], [], _, _, _, e => by simp at e
  | _, v :: vs, a :: as, 0, b, h, e => by
    simp only [List.getElem?_cons_zero, Option.some.injEq] at e
    subst e
    exact ⟨v, rfl, h.1⟩
  | _, v :: vs, a :: as, k + 1, b, h, e => by
    obtain ⟨w, h1, h2⟩ := PArs.get (k := k) h.2 (by simpa using e)
    exact ⟨w, by simpa using h1, h2⟩
theorem PArs.len : ∀ {O : Addr → Prop} {vs : List V} {as : List AR}, PArs K O σ H vs as → vs.length = as.length
  | _, [], [], _ => rfl
  | _, _ :: _, _ :: _, h => congrArg (· + 1) (PArs.len h.2)
/-- what is lent is a slot's own -/
theorem lnt_slot (S : StOk K H₀ B Z ρ σ H) {as : List AR} {vs : List V} {args : List Vl} (pa : PArs K (OO Z ρ σ) σ H vs as) (ea : as.mapM (arV ρ) = some args) {a : Addr} (h : Lnt vs args a) : ∃ (k j : Nat) (xs : List PD) (b : Bool), as[k]? = some (.ref j) ∧ getS ρ j = some (.own xs b) ∧ σ[j]? = some (some (.ref a)) := by
  obtain ⟨k, xs, h1, h2⟩ := h
  obtain ⟨x, e1, e2⟩ := (mapM_get ea).2 k _ h1
  obtain ⟨v, e3, e4⟩ := pa.get e1
  rw [h2] at e3; cases e3
  cases x with
  | val d => simp only [arV, Option.some.injEq] at e2; cases e2
  | ref j =>
    rcases arV_ref e2 with ⟨ys, b, g, _⟩ | ⟨_, _, g⟩ | ⟨_, _, g⟩
    · exact ⟨k, j, ys, b, e1, g, e4⟩
    · obtain ⟨_, _, r⟩ := S.slot j _ g
      exact r.elim
    · cases g
/-- behind a call, its own new list among the lists that may change (Zx), or not -/
theorem StOk.called (S : StOk K H₀ B Z ρ σ H) {as : List AR} {vs : List V} {args : List Vl} {outs : List (Option Vl)} {O' Zx : Addr → Prop} (pa : PArs K (OO Z ρ σ) σ H vs as) (ea : as.mapM (arV ρ) = some args) (nd : (lentOf as).Nodup)
    (ce : CallEnd K (OO Z ρ σ) H vs args outs O' H') (z1 : ∀ a, Z a → Zx a) (z2 : ∀ a, Zx a → Z a ∨ (H a = none ∧ (∃ o, H' a = some o) ∧ O' a)) :
    StOk K H₀ B Zx (backA ρ as outs) σ H' ∧ (∀ a, OO Zx (backA ρ as outs) σ a → O' a) ∧ ∀ a, OO Zx (backA ρ as outs) σ a → OO Z ρ σ a ∨ H a = none := by
  have ls := fun a => lnt_slot S pa ea (a := a)
  have lo : ∀ a, Lnt vs args a → OO Z ρ σ a := fun a h => by
    obtain ⟨k, j, xs, b, e1, e2, e3⟩ := ls a h
    exact .inr ⟨j, _, e2, rfl, e3⟩
  have zl : ∀ a, Z a → ¬ Lnt vs args a := fun a z h => by
    obtain ⟨k, j, xs, b, e1, e2, e3⟩ := ls a h
    exact (S.own j _ a e2 rfl e3).1 z
  -- a slot that owns behind the call
  have two : ∀ j y, getS (backA ρ as outs) j = some y → isOwn y = true → ∃ x, getS ρ j = some x ∧ isOwn x = true ∧ brOf x = brOf y ∧
      ((j ∉ lentOf as ∧ x = y) ∨ ∃ (k : Nat) (xs ys : List PD) (b : Bool), as[k]? = some (.ref j) ∧ x = .own xs b ∧ y = .own ys b ∧ args[k]? = some (.own xs true) ∧ outs[k]? = some (some (.own ys true))) := fun j y e ho => by
    by_cases hj : j ∈ lentOf as
    · obtain ⟨k, ek⟩ := mem_lent hj
      have hl : j < ρ.length := by rw [← backA_len (ρ := ρ) (as := as) (os := outs)]; exact getS_lt e
      rw [backA_in nd ek hl] at e
      obtain ⟨x, e1, e2⟩ := (mapM_get ea).1 k _ ek
      rcases arV_ref e2 with ⟨xs, b, g, rfl⟩ | ⟨kvs, b, g⟩ | ⟨xs, g, rfl⟩
      · rw [g] at e
        simp only [backS] at e
        split at e
        · rename_i ys q
          cases e
          refine ⟨_, g, rfl, rfl, .inr ⟨k, xs, ys, b, ek, rfl, rfl, e1, ?_⟩⟩
          cases q2 : outs[k]? with
          | none => rw [q2] at q; cases q
          | some o => rw [q2] at q; simp only [Option.join_some] at q; rw [q]
        · cases e
      · obtain ⟨_, _, r⟩ := S.slot j _ g
        exact r.elim
      · rw [g] at e
        cases e; cases ho
    · rw [backA_out hj] at e
      exact ⟨y, e, ho, rfl, .inl ⟨hj, rfl⟩⟩
  have nl : ∀ j x a, getS ρ j = some x → isOwn x = true → σ[j]? = some (some (.ref a)) → j ∉ lentOf as → ¬ Lnt vs args a := fun j x a e ho es hj h => by
    obtain ⟨k, j', xs, b, e1, e2, e3⟩ := ls a h
    have := S.inj j j' _ _ a e ho e2 rfl es e3
    subst this
    exact hj (lent_mem e1)
  have outO : ∀ (k j : Nat) (xs ys : List PD) a, as[k]? = some (.ref j) → args[k]? = some (.own xs true) → outs[k]? = some (some (.own ys true)) → σ[j]? = some (some (.ref a)) → O' a ∧ ∃ us, H' a = some (.lst us) ∧ RpL K O' H' us ys := fun k j xs ys a e1 e2 e3 e4 => by
    obtain ⟨v, e5, e6⟩ := pa.get e1
    have e6 : σ[j]? = some (some v) := e6
    rw [e4] at e6; cases e6
    exact ce.outs k xs ys a e2 e3 e5
  have sub : ∀ a, OO Zx (backA ρ as outs) σ a → O' a := fun a h => by
    rcases h with h | ⟨j, y, h1, h2, h3⟩
    · rcases z2 a h with z | ⟨_, _, z⟩
      · exact ce.rest a (.inl z) (zl a z)
      · exact z
    · obtain ⟨x, g1, g2, g3, g4⟩ := two j y h1 h2
      rcases g4 with ⟨g4, rfl⟩ | ⟨k, xs, ys, b, k1, k2, k3, k4, k5⟩
      · exact ce.rest a (.inr ⟨j, x, g1, g2, h3⟩) (nl j x a g1 g2 h3 g4)
      · exact (outO k j xs ys a k1 k4 k5 h3).1
  have old : ∀ a, OO Zx (backA ρ as outs) σ a → OO Z ρ σ a ∨ H a = none := fun a h => by
    rcases h with h | ⟨j, y, h1, h2, h3⟩
    · rcases z2 a h with z | ⟨z, _, _⟩
      · exact .inl (.inl z)
      · exact .inr z
    · obtain ⟨x, g1, g2, g3, g4⟩ := two j y h1 h2
      exact .inl (.inr ⟨j, x, g1, g2, h3⟩)
  have m : ∀ a o, Tr (OO Z ρ σ) H a o → Tr (OO Zx (backA ρ as outs) σ) H' a o := fun a o q => ⟨ce.keep a o q.1 fun h => q.2 (lo a h), fun z => by
    rcases old a z with z | z
    · exact q.2 z
    · rw [q.1] at z; cases z⟩
  have m' : ∀ a o, Tr O' H' a o → Tr (OO Zx (backA ρ as outs) σ) H' a o := fun a o q => ⟨q.1, fun z => q.2 (sub a z)⟩
  refine ⟨⟨by rw [backA_len]; exact S.len, fun a o e n => ce.keep a o (S.keep a o e n) fun h => ?_, S.bt₀, fun i a hb => ?_, fun a z => ?_, fun j y e => ?_, fun j y a e ho es => ?_, fun i j x y a e1 o1 e2 o2 s1 s2 => ?_⟩, sub, old⟩
  · obtain ⟨k, j, xs, b, e1, e2, e3⟩ := ls a h
    have q := (S.own j _ a e2 rfl e3).2
    split at q
    · exact n ⟨j, q⟩
    · rw [e] at q; cases q
  · obtain ⟨o, e⟩ := S.btr i a hb
    by_cases h : Lnt vs args a
    · exact ce.there a h
    · exact ⟨o, ce.keep a o e h⟩
  · rcases z2 a z with z | ⟨z, zt, _⟩
    · obtain ⟨o, e⟩ := (S.zok a z).1
      exact ⟨⟨o, ce.keep a o e (zl a z)⟩, (S.zok a z).2⟩
    · exact ⟨zt, fun ⟨i, hb⟩ => by
        obtain ⟨o, e⟩ := S.btr i a hb
        rw [z] at e; cases e⟩
  · cases ho : isOwn y with
    | true =>
      obtain ⟨x, g1, g2, g3, g4⟩ := two j y e ho
      rcases g4 with ⟨g4, rfl⟩ | ⟨k, xs, ys, b, k1, rfl, rfl, k4, k5⟩
      · obtain ⟨v, s1, s2⟩ := S.slot j x g1
        refine ⟨v, s1, s2.mono m fun a us _ ea q => ?_⟩
        subst ea
        exact ce.keep a _ q (nl j x a g1 g2 s1 g4)
      · obtain ⟨v, s1, a, us, rfl, _, _⟩ := S.slot j _ g1
        obtain ⟨_, us', w1, w2⟩ := outO k j xs ys a k1 k4 k5 s1
        exact ⟨_, s1, a, us', rfl, w1, RpL.mono m' _ _ w2⟩
    | false =>
      have same : getS ρ j = some y := by
        by_cases hj : j ∈ lentOf as
        · obtain ⟨k, ek⟩ := mem_lent hj
          have hl : j < ρ.length := by rw [← backA_len (ρ := ρ) (as := as) (os := outs)]; exact getS_lt e
          rw [backA_in nd ek hl] at e
          obtain ⟨x, e1, e2⟩ := (mapM_get ea).1 k _ ek
          rcases arV_ref e2 with ⟨xs, b, g, rfl⟩ | ⟨kvs, b, g⟩ | ⟨xs, g, rfl⟩
          · rw [g] at e
            simp only [backS] at e
            split at e
            · cases e; cases ho
            · cases e
          · obtain ⟨_, _, r⟩ := S.slot j _ g
            exact r.elim
          · rw [g] at e ⊢
            exact e
        · rw [backA_out hj] at e; exact e
      obtain ⟨v, s1, s2⟩ := S.slot j y same
      exact ⟨v, s1, s2.mono m fun a us h _ _ => by rw [ho] at h; cases h⟩
  · obtain ⟨x, g1, g2, g3, g4⟩ := two j y e ho
    have q := S.own j x a g1 g2 es
    refine ⟨fun z => ?_, by rw [← g3]; exact q.2⟩
    rcases z2 a z with z | ⟨z, _, _⟩
    · exact q.1 z
    · obtain ⟨o, e'⟩ := S.tracked (.inr ⟨j, x, g1, g2, es⟩)
      rw [z] at e'; cases e'
  · obtain ⟨x', g1, g2, _⟩ := two i x e1 o1
    obtain ⟨y', k1, k2, _⟩ := two j y e2 o2
    exact S.inj i j x' y' a g1 g2 k1 k2 s1 s2
end
section
variable {X : Cx} {cad : Nat → Option Addr} {W : WX} {T : List Nat}
theorem lendV_ok {ρ : Env} {i : Nat} : lendV i ρ = .bad ∨ (∃ d, getS ρ i = some (.val d) ∧ lendV i ρ = .ok (.val d) ρ) ∨ ∃ x, getS ρ i = some x ∧ lendV i ρ = .ok (.ref i) ρ := by
  unfold lendV
  cases e : getS ρ i with
  | none => exact .inl rfl
  | some x =>
    cases x with
    | val d => exact .inr (.inl ⟨d, rfl, rfl⟩)
    | _ => exact .inr (.inr ⟨_, rfl, rfl⟩)
theorem MOk.lendV {i : Nat} : MOk T (lendV i) := fun ρ => by
  rcases lendV_ok (ρ := ρ) (i := i) with e | ⟨d, _, e⟩ | ⟨x, _, e⟩ <;> rw [e]
  · trivial
  · exact .refl _
  · exact .refl _
theorem back_le {ρ : Env} {as : List AR} {outs : List (Option Vl)} (hT : ∀ j, j ∈ lentOf as → j ∈ T) (nd : (lentOf as).Nodup) : EnvLe T ρ (backA ρ as outs) := by
  refine ⟨backA_len, fun j => ?_⟩
  by_cases hj : j ∈ lentOf as
  · obtain ⟨k, ek⟩ := mem_lent hj
    by_cases hl : j < ρ.length
    · rw [backA_in nd ek hl]
      cases e : getS ρ j with
      | none => rfl
      | some x =>
        cases x with
        | val d => rfl
        | own xs b =>
          simp only [backS]
          split
          · exact ⟨_, fun z => absurd (hT j hj) z, .inl rfl⟩
          · exact ⟨xs, fun _ => rfl, .inr (.inr ⟨rfl, hT j hj⟩)⟩
        | dic kvs b => exact ⟨kvs, fun _ => rfl, .inr ⟨rfl, hT j hj⟩⟩
        | lok xs => exact .inl rfl
    · have e1 : getS ρ j = none := by unfold getS; rw [List.getElem?_eq_none (by omega)]; rfl
      have e2 : getS (backA ρ as outs) j = none := by unfold getS; rw [List.getElem?_eq_none (by rw [backA_len]; omega)]; rfl
      rw [e1, e2]; rfl
  · rw [backA_out hj]; exact .refl _
def resM (ρ : Env) (as : List AR) : FRes → Out Rv
  | .ok x outs => .ok (.v x) (backA ρ as outs)
  | .ex c => .ex c (backA ρ as [])
  | .bad => .bad
theorem callM_ok {φ : Fns} {f : Nat} {as : List AR} {ρ : Env} : callM φ f as ρ = .bad ∨ ∃ args, as.mapM (arV ρ) = some args ∧ (lentOf as).Nodup ∧ callM φ f as ρ = resM ρ as (φ f args) := by
  unfold callM
  cases e1 : as.mapM (arV ρ) with
  | none => exact .inl rfl
  | some args =>
    by_cases nd : (lentOf as).Nodup
    · refine .inr ⟨args, rfl, nd, ?_⟩
      dsimp only
      rw [if_pos nd]
      cases φ f args <;> rfl
    · refine .inl ?_
      dsimp only
      rw [if_neg nd]
theorem callM_le {φ : Fns} {f : Nat} {as : List AR} (hT : ∀ j, j ∈ lentOf as → j ∈ T) : MOk T (callM φ f as) := fun ρ => by
  rcases callM_ok (φ := φ) (f := f) (as := as) (ρ := ρ) with e | ⟨args, _, nd, e⟩
  · rw [e]; trivial
  · rw [e]
    cases φ f args with
    | ok x outs => exact back_le hT nd
    | ex c => exact back_le hT nd
    | bad => trivial
/-! the arguments -/
theorem DA.nilA : DA X cad W T [] (M.ret ([] : List AR)) (fun _ _ Z ρ σ H vs as => PArs X.K (OO Z ρ σ) σ H vs as) := ⟨.ret, pa_of pa_nil fun σ H Q ⟨H₀, B, Z, ρ, h⟩ => h.ret (.refl H) trivial⟩
theorem PArs.step {K : PySem.W.Frag} {Z : Addr → Prop} {ρ ρ' : Env} {σ : St} {H H' : Hp} (le : EnvLe T ρ ρ') (ev : Ev T ρ σ H H') : ∀ {vs : List V} {as : List AR}, PArs K (OO Z ρ σ) σ H vs as → PArs K (OO Z ρ' σ) σ H' vs as
  | [], [], _ => trivial
  | v :: vs, .val d :: as, h => ⟨Rp.step le ev h.1, PArs.step le ev h.2⟩
  | v :: vs, .ref i :: as, h => ⟨h.1, PArs.step le ev h.2⟩
theorem DA.consA {e : Expr} {es : List Expr} {f : M Rv} {g : M (List AR)} (ns : NoStar e) (he : DE X cad W T e f) (hs : DA X cad W T es g (fun _ _ Z ρ σ H vs as => PArs X.K (OO Z ρ σ) σ H vs as)) :
    DA X cad W T (e :: es) (f.bind fun x => (freeze x).bind fun d => g.bind fun as => M.ret (.val d :: as)) (fun _ _ Z ρ σ H vs as => PArs X.K (OO Z ρ σ) σ H vs as) := by
  refine ⟨.bind he.1 fun x => .bind .freeze fun d => .bind hs.1 fun ds => .ret, pa_of (pa_cons he.2 hs.2 (ns es _)) fun σ H Q ⟨H₀, B, Z, ρ, h⟩ => ?_⟩
  refine h.to he.1 fun x ρ1 v H1 le1 ev1 p1 h1 => ?_
  obtain ⟨d, ρ2, le2, q1, h2⟩ := h1.freeze p1.1
  refine h2.to hs.1 fun as ρ3 vs H3 le3 ev3 p3 h3 => ?_
  exact h3.ret (.refl H3) ⟨q1.step le3 ev3, p3⟩
theorem DA.consR {i : Nat} {x : Str} {p : Pos} {es : List Expr} {g : M (List AR)} (hN : X.N[i]? = some x) (hv : Vis X.env.scope x) (hd : (x == ("__debug__" : Str)) = false) (hcd : (x == ("__classdict__" : Str)) = false) (hs : DA X cad W T es g (fun _ _ Z ρ σ H vs as => PArs X.K (OO Z ρ σ) σ H vs as)) :
    DA X cad W T (.Name x p :: es) ((lendV i).bind fun a => g.bind fun as => M.ret (a :: as)) (fun _ _ Z ρ σ H vs as => PArs X.K (OO Z ρ σ) σ H vs as) := by
  refine ⟨.bind .lendV fun x => .bind hs.1 fun ds => .ret, pa_of (pa_cons (pe_var hN hv hd hcd) hs.2 rfl) fun σ H Q ⟨H₀, B, Z, ρ, h⟩ => ?_⟩
  rcases lendV_ok (ρ := ρ) (i := i) with e | ⟨d, e1, e⟩ | ⟨y, e1, e⟩
  · exact (h.bad e).elim
  · have h1 := h.go e (.refl _) h.s
    obtain ⟨v, s1, r⟩ := h.s.slot i _ e1
    refine ⟨v, s1, h1.to hs.1 fun as ρ3 vs H3 le3 ev3 p3 h3 => ?_⟩
    exact h3.ret (.refl H3) ⟨Rp.step le3 ev3 r, p3⟩
  · have h1 := h.go e (.refl _) h.s
    obtain ⟨v, s1, r⟩ := h.s.slot i _ e1
    refine ⟨v, s1, h1.to hs.1 fun as ρ3 vs H3 le3 ev3 p3 h3 => ?_⟩
    exact h3.ret (.refl H3) ⟨s1, p3⟩
/-- f(..), a def of the text -/
theorem DE.call {φ : Fns} {f k np : Nat} {x : Str} {fa : Addr} {fd : FuncData} {ps : List Str} {e : Expr} {es : List Expr} {g : M (List AR)} {p pos : Pos}
    (F : FnOk X.prog X.w X.K X.mg X.base (L2.CX X.prog X.w) k fa fd ps (spF X.K cad (φ f) np)) (hr : Room k X.A) (hg : Gl X x) (hm : X.mg x = some (.ref fa)) (hk : PySem.W.keepIn X.K (.ref fa) = true) (hb : Binds X.K fd ps []) (tk : Takes X W)
    (hdb : (x == ("__debug__" : Str)) = false) (ns : NoStar e) (nss : NoStars es) (hnp : np = (e :: es).length)
    (hs : DA X cad W T (e :: es) g (fun _ _ Z ρ σ H vs as => PArs X.K (OO Z ρ σ) σ H vs as)) (hlen : MLen np g) (hT : ∀ ρ as ρ', g ρ = .ok as ρ' → ∀ j, j ∈ lentOf as → j ∈ T) :
    DE X cad W T (.Call (.Name x p) (e :: es) [] pos) (g.bind fun as => callM φ f as) := by
  refine ⟨fun ρ => ?_, pe_of (pe_callS F hr hg hm hk hb (fun σ => passAt tk σ) hs.2 hdb (ns es _) (nss pos _)) fun σ H Q ⟨H₀, B, Z, ρ, h⟩ => ?_⟩
  · unfold M.bind
    cases e1 : g ρ with
    | ok as ρ1 =>
      have l1 := hs.1.ok e1
      have q := callM_le (φ := φ) (f := f) (hT _ _ _ e1) ρ1
      dsimp only
      cases e2 : callM φ f as ρ1 with
      | ok a ρ2 => rw [e2] at q; exact l1.trans q
      | ex a ρ2 => rw [e2] at q; exact l1.trans q
      | bad => trivial
    | ex c ρ1 => exact hs.1.ex e1
    | bad => trivial
  · refine ⟨H₀, B, Z, ρ, (h.bind (fun _ z => z) hs.1).mono fun vs H1 ⟨as, ρ1, e1, le, ev, pa, q⟩ => ?_⟩
    obtain ⟨S, q⟩ := q
    have hlT := hT _ _ _ e1
    rcases callM_ok (φ := φ) (f := f) (as := as) (ρ := ρ1) with e2 | ⟨args, ea, nd, e2⟩
    · rw [e2] at q; exact q.elim
    · rw [e2] at q
      have ls := fun a => lnt_slot S pa ea (a := a)
      have hmg := mapM_get ea
      -- what the def is given
      have ao : ArgsOk X.K (OO Z ρ1 σ) H1 vs args := by
        have gen : ∀ (vs : List V) (as : List AR) (args : List Vl), PArs X.K (OO Z ρ1 σ) σ H1 vs as → as.mapM (arV ρ1) = some args → ArgsOk X.K (OO Z ρ1 σ) H1 vs args := by
          intro vs
          induction vs with
          | nil =>
            intro as args pa ea
            cases as with
            | nil =>
              simp only [List.mapM_nil, Option.pure_def, Option.some.injEq] at ea
              subst ea; trivial
            | cons _ _ => exact pa.elim
          | cons v vs ih =>
            intro as args pa ea
            cases as with
            | nil => exact pa.elim
            | cons a as =>
              rw [List.mapM_cons] at ea
              cases e3 : arV ρ1 a with
              | none => rw [e3] at ea; cases ea
              | some b =>
                rw [e3] at ea
                cases e4 : as.mapM (arV ρ1) with
                | none => rw [e4] at ea; cases ea
                | some bs =>
                  rw [e4] at ea
                  cases ea
                  refine ⟨?_, ih as bs pa.2 e4⟩
                  cases a with
                  | val d =>
                    simp only [arV, Option.some.injEq] at e3
                    subst e3
                    exact pa.1
                  | ref j =>
                    have pj : σ[j]? = some (some v) := pa.1
                    rcases arV_ref e3 with ⟨xs, b', g1, rfl⟩ | ⟨kvs, b', g1⟩ | ⟨xs, g1, rfl⟩
                    · obtain ⟨w, s1, a, us, rfl, s2, s3⟩ := S.slot j _ g1
                      rw [pj] at s1; cases s1
                      exact ⟨a, us, rfl, s2, s3, .inr ⟨j, _, g1, rfl, pj⟩⟩
                    · obtain ⟨_, _, r⟩ := S.slot j _ g1
                      exact r.elim
                    · obtain ⟨w, s1, a, us, rfl, s2, s3⟩ := S.slot j _ g1
                      rw [pj] at s1; cases s1
                      exact ⟨a, us, rfl, s2, s3⟩
        exact gen vs as args pa ea
      refine ⟨by rw [pa.len]; exact hlen _ _ _ e1, OO Z ρ1 σ, args, fun a z => S.tracked z, ao, fun i j xs ys a g1 g2 g3 g4 => ?_, ?_⟩
      · obtain ⟨x1, a1, a2⟩ := hmg.2 i _ g1
        obtain ⟨x2, b1, b2⟩ := hmg.2 j _ g2
        obtain ⟨v1, c1, c2⟩ := pa.get a1
        obtain ⟨v2, d1, d2⟩ := pa.get b1
        rw [g3] at c1; cases c1
        rw [g4] at d1; cases d1
        cases x1 with
        | val _ => simp only [arV, Option.some.injEq] at a2; cases a2
        | ref j1 =>
          cases x2 with
          | val _ => simp only [arV, Option.some.injEq] at b2; cases b2
          | ref j2 =>
            rcases arV_ref a2 with ⟨us, b', k1, _⟩ | ⟨_, _, k1⟩ | ⟨_, _, k1⟩
            · rcases arV_ref b2 with ⟨us', b'', k2, _⟩ | ⟨_, _, k2⟩ | ⟨_, _, k2⟩
              · have := S.inj j1 j2 _ _ a k1 rfl k2 rfl c2 d2
                subst this
                exact lent_inj nd a1 b1
              · obtain ⟨_, _, r⟩ := S.slot j2 _ k2
                exact r.elim
              · cases k2
            · obtain ⟨_, _, r⟩ := S.slot j1 _ k1
              exact r.elim
            · cases k1
      · have lT : ∀ a, Lnt vs args a → ∃ i ∈ T, ∃ x, getS ρ1 i = some x ∧ isOwn x = true ∧ σ[i]? = some (some (.ref a)) := fun a hl => by
          obtain ⟨k, j, xs, b, e3, e4, e5⟩ := ls a hl
          exact ⟨j, hlT j (lent_mem e3), _, e4, rfl, e5⟩
        cases e3 : φ f args with
        | bad => rw [e3] at q; exact q.elim
        | ok y outs =>
          rw [e3] at q
          intro v H' O' ce ro
          have ev' : Ev T ρ1 σ H1 H' := fun a o e4 n => ce.keep a o e4 fun hl => n (lT a hl)
          obtain ⟨S1, s1, s2⟩ := S.called pa ea nd ce (fun _ z => z) fun a z => .inl z
          have m' : ∀ a o, Tr O' H' a o → Tr (OO Z (backA ρ1 as outs) σ) H' a o := fun a o z => ⟨z.1, fun w => z.2 (s1 a w)⟩
          refine q v H' S1 ev' ?_
          match y, ro with
          | .val d, ro => exact ⟨Rp.mono m' d v ro, trivial⟩
          | .own ys false, ⟨a, us, ea2, r1, r2, r3, r4⟩ =>
            obtain ⟨S2, t1, t2⟩ := S.called (Zx := fun c => Z c ∨ c = a) pa ea nd ce (fun _ z => .inl z) fun c z => z.imp id fun w => by subst w; exact ⟨r1, ⟨_, r2⟩, r4⟩
            refine ⟨⟨a, us, ea2, r2, RpL.mono (fun c o z => ⟨z.1, fun w => z.2 ?_⟩) _ _ r3, fun w => ?_, S.fresh₀ r1⟩, fun c ec => ?_⟩
            · rcases w with w | w
              · exact s1 c w
              · rw [w]; exact r4
            · rcases w with w | ⟨j, x2, h1, h2, h3⟩
              · exact S.fresh r1 (.inl w)
              · exact (S2.own j x2 a h1 h2 h3).1 (.inr rfl)
            · rw [ea2] at ec; cases ec; exact S2
        | ex c =>
          rw [e3] at q
          intro cl d H' k1 k2 x1
          have ce : CallEnd X.K (OO Z ρ1 σ) H1 vs args [] (fun a => OO Z ρ1 σ a) H' := ⟨k1, k2, fun a z => .inl z, fun a z _ => z, fun i xs ys a _ z => by simp at z⟩
          obtain ⟨S1, s1, s2⟩ := S.called pa ea nd ce (fun _ z => z) fun a z => .inl z
          exact q cl d H' S1 (fun a o e4 n => k1 a o e4 fun hl => n (lT a hl)) x1
end
end Gn

/-! Gn, part K: statements. -/
namespace Gn
open PySem PySem.Spec L2
open PyProof.Rows hiding St

section
variable {K : PySem.W.Frag} {H₀ : Hp} {B : Nat → Addr → Prop} {Z : Addr → Prop} {ρ ρ' : Env} {σ σ' : St} {H H' : Hp} {v : V}
/-! ### a new point from which the heap is told -/
def OwF (ρ : Env) (σ : St) (a : Addr) : Prop := ∃ (j : Nat) (x : Vl), getS ρ j = some x ∧ isOwn x = true ∧ brOf x = false ∧ σ[j]? = some (some (.ref a))
open Classical in
noncomputable def bH (ρ : Env) (σ : St) (H : Hp) : Hp := fun a => if OwF ρ σ a then none else H a
def bB (ρ : Env) (σ : St) (i : Nat) (a : Addr) : Prop := ∃ x, getS ρ i = some x ∧ isOwn x = true ∧ brOf x = true ∧ σ[i]? = some (some (.ref a))
theorem bH_some {a : Addr} {o : HO} (h : bH ρ σ H a = some o) : H a = some o ∧ ¬ OwF ρ σ a := by
  unfold bH at h
  split at h
  · cases h
  · exact ⟨h, by assumption⟩
theorem bH_of {a : Addr} {o : HO} (h : H a = some o) (n : ¬ OwF ρ σ a) : bH ρ σ H a = some o := by
  unfold bH
  rw [if_neg n]; exact h
theorem bH_none {a : Addr} (h : bH ρ σ H a = none) : H a = none ∨ OwF ρ σ a := by
  unfold bH at h
  split at h
  · exact .inr (by assumption)
  · exact .inl h
theorem StOk.rebase (S : StOk K H₀ B Z ρ σ H) : StOk K (bH ρ σ H) (bB ρ σ) Z ρ σ H := by
  have tr : ∀ i a, bB ρ σ i a → ∃ o, H a = some o := fun i a ⟨x, e1, e2, _, e4⟩ => S.tracked (.inr ⟨i, x, e1, e2, e4⟩)
  refine ⟨S.len, fun a o e _ => (bH_some e).1, fun i a hb => ?_, tr, fun a z => ⟨(S.zok a z).1, fun ⟨i, x, e1, e2, _, e4⟩ => (S.own i x a e1 e2 e4).1 z⟩, S.slot, fun i x a e ho es => ⟨(S.own i x a e ho es).1, ?_⟩, S.inj⟩
  · obtain ⟨o, e⟩ := tr i a hb
    refine ⟨o, bH_of e fun ⟨j, y, g1, g2, g3, g4⟩ => ?_⟩
    obtain ⟨x, e1, e2, e3, e4⟩ := hb
    have := S.inj i j x y a e1 e2 g1 g2 e4 g4
    subst this
    rw [e1] at g1; cases g1
    rw [e3] at g3; cases g3
  · cases hb : brOf x with
    | true => exact ⟨x, e, ho, hb, es⟩
    | false =>
      show bH ρ σ H a = none
      unfold bH
      rw [if_pos ⟨i, x, e, ho, hb, es⟩]
/-- what may not change is kept -/
theorem StOk.kept (S : StOk K H₀ B Z ρ σ H) (S' : StOk K (bH ρ σ H) (bB ρ σ) Z ρ' σ' H') : ∀ a o, Tr (OO Z ρ σ) H a o → Tr (OO Z ρ' σ') H' a o := fun a o q => by
  have n : ¬ OwF ρ σ a := fun ⟨j, x, e1, e2, _, e4⟩ => q.2 (.inr ⟨j, x, e1, e2, e4⟩)
  have nb : ¬ ∃ i, bB ρ σ i a := fun ⟨i, x, e1, e2, _, e4⟩ => q.2 (.inr ⟨i, x, e1, e2, e4⟩)
  have e1 := bH_of q.1 n
  refine ⟨S'.keep a o e1 nb, fun z => ?_⟩
  rcases z with z | ⟨j, x, g1, g2, g3⟩
  · exact q.2 (.inl z)
  · have w := (S'.own j x a g1 g2 g3).2
    split at w
    · exact nb ⟨j, w⟩
    · rw [e1] at w; cases w
theorem StOk.b_none (S : StOk K H₀ B Z ρ σ H) {a : Addr} (h : bH ρ σ H a = none) : H₀ a = none := by
  rcases bH_none h with h | ⟨j, x, e1, e2, e3, e4⟩
  · exact S.fresh₀ h
  · have w := (S.own j x a e1 e2 e4).2
    rw [e3, if_neg Bool.false_ne_true] at w
    exact w
theorem StOk.unbase {Zx : Addr → Prop} (S : StOk K H₀ B Z ρ σ H) (S' : StOk K (bH ρ σ H) (bB ρ σ) Zx ρ' σ' H') (hz : ∀ a, Zx a → ¬ ∃ i, B i a) : StOk K H₀ B Zx ρ' σ' H' := by
  have bb : ∀ i a, bB ρ σ i a → B i a := fun i a ⟨x, e1, e2, e3, e4⟩ => by
    have w := (S.own i x a e1 e2 e4).2
    rw [e3, if_pos rfl] at w
    exact w
  refine ⟨S'.len, fun a o e n => ?_, S.bt₀, fun i a hb => ?_, fun a z => ⟨(S'.zok a z).1, hz a z⟩, S'.slot, fun i x a e ho es => ⟨(S'.own i x a e ho es).1, ?_⟩, S'.inj⟩
  · have e1 := S.keep a o e n
    refine S'.keep a o (bH_of e1 fun ⟨j, x, g1, g2, g3, g4⟩ => ?_) fun ⟨i, hb⟩ => n ⟨i, bb i a hb⟩
    have w := (S.own j x a g1 g2 g4).2
    rw [g3, if_neg Bool.false_ne_true, e] at w
    cases w
  · obtain ⟨o, e⟩ := S.btr i a hb
    by_cases hq : ∃ i', bB ρ σ i' a
    · obtain ⟨i', hq⟩ := hq
      exact S'.btr i' a hq
    · refine ⟨o, S'.keep a o (bH_of e fun ⟨j, x, g1, g2, g3, g4⟩ => ?_) hq⟩
      have w := (S.own j x a g1 g2 g4).2
      rw [g3, if_neg Bool.false_ne_true] at w
      obtain ⟨o', e'⟩ := S.bt₀ i a hb
      rw [w] at e'; cases e'
  · have w := (S'.own i x a e ho es).2
    cases hb : brOf x with
    | true =>
      rw [hb, if_pos rfl] at w
      rw [if_pos rfl]
      exact bb i a w
    | false =>
      rw [hb, if_neg Bool.false_ne_true] at w
      rw [if_neg Bool.false_ne_true]
      exact S.b_none w
end

/-! ### readings of statements -/
def sAt (K : PySem.W.Frag) (cad : Nat → Option Addr) (W : WX) (H₀ : Hp) (B : Nat → Addr → Prop) (Z : Addr → Prop) (ρ : Env) (f : M Fl) (D : Ends) (σ : St) (H : Hp) : Prop :=
  StOk K H₀ B Z ρ σ H ∧ match f ρ with
    | .ok .next ρ' => ∀ σ' H', StOk K H₀ B Z ρ' σ' H' → D.nx σ' H'
    | .ok .brk ρ' => ∀ σ' H', StOk K H₀ B Z ρ' σ' H' → D.bk σ' H'
    | .ok .cont ρ' => ∀ σ' H', StOk K H₀ B Z ρ' σ' H' → D.ct σ' H'
    | .ok (.ret x) ρ' => ∀ v σ' H', StOk K H₀ B Z ρ' σ' H' → RpF K H₀ B Z ρ' σ' H' v (.v x) → D.rt v H'
    | .ex c ρ' => ∀ cl d σ' H', StOk K H₀ B Z ρ' σ' H' → ExIs cad c cl d H' → W cl d σ' H'
    | .bad => False
def sW (K : PySem.W.Frag) (cad : Nat → Option Addr) (W : WX) (f : M Fl) : TS := fun D σ H => ∃ H₀ B Z ρ, sAt K cad W H₀ B Z ρ f D σ H
def DS (X : Cx) (cad : Nat → Option Addr) (W : WX) (s : Stmt) (f : M Fl) : Prop := PS X s (sW X.K cad W f)
def DSs (X : Cx) (cad : Nat → Option Addr) (W : WX) (s : List Stmt) (f : M Fl) : Prop := PSs X s (sW X.K cad W f)
theorem ps_of {X : Cx} {s : Stmt} {t t' : TS} (h : PS X s t) (m : ∀ D σ H, t' D σ H → t D σ H) : PS X s t' := ⟨fun pins s σ H D I hw => h.run pins s σ H D I (m D σ H hw)⟩
theorem pss_of {X : Cx} {s : List Stmt} {t t' : TS} (h : PSs X s t) (m : ∀ D σ H, t' D σ H → t D σ H) : PSs X s t' := ⟨fun pins s σ H D I hw => h.run pins s σ H D I (m D σ H hw)⟩
section
variable {α δ : Type} {K : PySem.W.Frag} {cad : Nat → Option Addr} {W : WX} {T : List Nat} {H₀ : Hp} {B : Nat → Addr → Prop} {Z : Addr → Prop} {ρ ρ' : Env} {σ σ' : St} {H H' : Hp} {v : V} {D : Ends}
/-- an expression within a statement -/
theorem sAt.to {P1 : Post α δ} {f : M α} {g : α → M Fl} {Q1 : δ → Hp → Prop} (h : sAt K cad W H₀ B Z ρ (f.bind g) D σ H) (hf : MOk T f)
    (k : ∀ a ρ1 v H1, EnvLe T ρ ρ1 → Ev T ρ σ H H1 → P1 H₀ B Z ρ1 σ H1 v a → sAt K cad W H₀ B Z ρ1 (g a) D σ H1 → Q1 v H1) : tW K cad W T f P1 σ H Q1 := by
  obtain ⟨S, h⟩ := h
  refine ⟨H₀, B, Z, ρ, S, ?_⟩
  unfold M.bind at h
  cases e : f ρ with
  | bad => rw [e] at h; exact h
  | ex c ρ1 =>
    rw [e] at h
    exact fun cl d H' S' _ x => h cl d σ H' S' x
  | ok a ρ1 =>
    rw [e] at h
    exact fun v H1 S1 ev p => k a ρ1 v H1 (hf.ok e) ev p ⟨S1, h⟩
theorem sAt.go {f : M α} {g : α → M Fl} {a : α} {ρ1 : Env} {σ1 : St} {H1 : Hp} (h : sAt K cad W H₀ B Z ρ (f.bind g) D σ H) (e : f ρ = .ok a ρ1) (S : StOk K H₀ B Z ρ1 σ1 H1) : sAt K cad W H₀ B Z ρ1 (g a) D σ1 H1 := by
  obtain ⟨_, h⟩ := h
  refine ⟨S, ?_⟩
  unfold M.bind at h
  rw [e] at h
  exact h
theorem sAt.bad {f : M α} {g : α → M Fl} (h : sAt K cad W H₀ B Z ρ (f.bind g) D σ H) (e : f ρ = .bad) : False := by
  obtain ⟨_, h⟩ := h
  unfold M.bind at h
  rw [e] at h
  exact h
theorem sAt.next (h : sAt K cad W H₀ B Z ρ (M.ret .next) D σ H) : D.nx σ H := h.2 σ H h.1
theorem sAt.peek {x : Rv} {g : PD → M Fl} (h : sAt K cad W H₀ B Z ρ ((peekR x).bind g) D σ H) (r : RpV K H₀ (OO Z ρ σ) ρ σ H v x) : ∃ d, Pk K (OO Z ρ σ) H v d ∧ sAt K cad W H₀ B Z ρ (g d) D σ H := by
  rcases peek_ok h.1 r with e | ⟨d, e, p⟩
  · exact (h.bad e).elim
  · exact ⟨d, p, h.go e h.1⟩
theorem sAt.freeze {x : Rv} {g : PD → M Fl} (h : sAt K cad W H₀ B Z ρ ((freeze x).bind g) D σ H) (r : RpV K H₀ (OO Z ρ σ) ρ σ H v x) : ∃ d ρ', EnvLe [] ρ ρ' ∧ Rp K (OO Z ρ' σ) H v d ∧ sAt K cad W H₀ B Z ρ' (g d) D σ H := by
  rcases freeze_ok h.1 r with e | ⟨d, ρ', e, le, S', p⟩
  · exact (h.bad e).elim
  · exact ⟨d, ρ', le, p, h.go e S'⟩
/-- one statement, then the others -/
theorem sAt.seq {f : M Fl} {g : M Fl} (h : sAt K cad W H₀ B Z ρ (f.bind (seqM g)) D σ H) : sAt K cad W H₀ B Z ρ f { D with nx := sW K cad W g D } σ H := by
  obtain ⟨S, h⟩ := h
  refine ⟨S, ?_⟩
  unfold M.bind at h
  cases e : f ρ with
  | bad => rw [e] at h; exact h
  | ex c ρ1 => rw [e] at h; exact h
  | ok k ρ1 =>
    rw [e] at h
    cases k with
    | next => exact fun σ' H' S' => ⟨H₀, B, Z, ρ1, S', h⟩
    | brk => exact h
    | cont => exact h
    | ret x => exact h
end
section
variable {X : Cx} {cad : Nat → Option Addr} {W : WX} {T : List Nat} {pos : Pos}
theorem DSs.nil : DSs X cad W [] (M.ret .next) := pss_of pss_nil fun D σ H ⟨H₀, B, Z, ρ, h⟩ => h.next
theorem DSs.cons {s : Stmt} {ss : List Stmt} {f g : M Fl} (hs : DS X cad W s f) (hss : DSs X cad W ss g) : DSs X cad W (s :: ss) (f.bind (seqM g)) :=
  pss_of (pss_cons hs hss) fun D σ H ⟨H₀, B, Z, ρ, h⟩ => ⟨H₀, B, Z, ρ, h.seq⟩
theorem DS.pass : DS X cad W (.Pass pos) (M.ret .next) := ps_of ps_pass fun D σ H ⟨H₀, B, Z, ρ, h⟩ => h.next
theorem DS.brk : DS X cad W (.Break pos) (M.ret .brk) := ps_of ps_break fun D σ H ⟨H₀, B, Z, ρ, h⟩ => h.2 σ H h.1
theorem DS.cont : DS X cad W (.Continue pos) (M.ret .cont) := ps_of ps_continue fun D σ H ⟨H₀, B, Z, ρ, h⟩ => h.2 σ H h.1
theorem DS.retN : DS X cad W (.Return none pos) (M.ret (.ret (.val .none))) := ps_of ps_retN fun D σ H ⟨H₀, B, Z, ρ, h⟩ => h.2 .non σ H h.1 ⟨.non, trivial⟩
theorem DS.expr {e : Expr} {f : M Rv} (hs : swapsWith e none pos.line X.env = pure false) (he : DE X cad W T e f) : DS X cad W (.Expr e pos) (f.bind fun _ => M.ret .next) :=
  ps_of (ps_expr he.2 hs) fun D σ H ⟨H₀, B, Z, ρ, h⟩ => h.to he.1 fun x ρ1 v H1 _ _ _ h1 => h1.next
theorem DS.ife {c : Expr} {a b : List Stmt} {t : M Bool} {f g : M Fl} (hc : DT X cad W T c t) (ha : DSs X cad W a f) (hb : DSs X cad W b g) : DS X cad W (.If c a b pos) (t.bind fun k => if k then f else g) :=
  ps_of (ps_if hc.2.1 ha hb) fun D σ H ⟨H₀, B, Z, ρ, h⟩ => h.to hc.1 fun k ρ1 v H1 _ _ p h1 => by
    have p : v = k := p
    subst p
    cases v with
    | true => exact ⟨_, _, _, _, h1⟩
    | false => exact ⟨_, _, _, _, h1⟩
/-- slot i hands its list on -/
theorem StOk.release {K : PySem.W.Frag} {H₀ : Hp} {B : Nat → Addr → Prop} {Z : Addr → Prop} {ρ : Env} {σ : St} {H : Hp} (S : StOk K H₀ B Z ρ σ H) {i : Nat} {xs : List PD} {a : Addr} (e : getS ρ i = some (.own xs false)) (hs : σ[i]? = some (some (.ref a))) :
    StOk K H₀ B Z (ρ.set i none) σ H ∧ RpF K H₀ B Z (ρ.set i none) σ H (.ref a) (.v (.own xs false)) := by
  have own := S.own i _ a e rfl hs
  have own2 : H₀ a = none := own.2
  have old : ∀ {j : Nat} {y : Vl}, getS (ρ.set i none) j = some y → i ≠ j ∧ getS ρ j = some y := fun {j y} f => by
    by_cases hj : i = j
    · subst hj
      rw [getS_set_none] at f; cases f
    · rw [getS_set_ne hj] at f
      exact ⟨hj, f⟩
  have sub : ∀ c, OO (fun c => Z c ∨ c = a) (ρ.set i none) σ c → OO Z ρ σ c := fun c z => by
    rcases z with (z | z) | ⟨j, y, f1, f2, f3⟩
    · exact .inl z
    · rw [z]; exact .inr ⟨i, _, e, rfl, hs⟩
    · exact .inr ⟨j, y, (old f1).2, f2, f3⟩
  have m : ∀ c o, Tr (OO Z ρ σ) H c o → Tr (OO (fun c => Z c ∨ c = a) (ρ.set i none) σ) H c o := fun c o q => ⟨q.1, fun z => q.2 (sub c z)⟩
  have S2 : StOk K H₀ B (fun c => Z c ∨ c = a) (ρ.set i none) σ H := by
    refine ⟨by rw [List.length_set]; exact S.len, S.keep, S.bt₀, S.btr, fun c z => ?_, fun j y f => ?_, fun j y c f1 f2 f3 => ?_, fun j k y z c f1 f2 f3 f4 f5 f6 => S.inj j k y z c (old f1).2 f2 (old f3).2 f4 f5 f6⟩
    · rcases z with z | z
      · exact S.zok c z
      · subst z
        refine ⟨S.tracked (.inr ⟨i, _, e, rfl, hs⟩), fun ⟨k, hb⟩ => ?_⟩
        obtain ⟨o, eo⟩ := S.bt₀ k _ hb
        rw [own2] at eo; cases eo
    · obtain ⟨v, s1, s2⟩ := S.slot j y (old f).2
      exact ⟨v, s1, s2.mono m fun _ _ _ _ q => q⟩
    · obtain ⟨hne, g⟩ := old f1
      have q := S.own j y c g f2 f3
      refine ⟨fun z => ?_, q.2⟩
      rcases z with z | z
      · exact q.1 z
      · subst z
        exact hne (S.inj i j _ y _ e rfl g f2 hs f3)
  obtain ⟨v, s1, a', us, rfl, q1, q2⟩ := S.slot i _ e
  rw [hs] at s1; cases s1
  refine ⟨S2.dropZ fun c z => .inl z, ⟨a, us, rfl, q1, RpL.mono (fun c o q => ⟨q.1, fun z => q.2 ?_⟩) _ _ q2, fun z => ?_, own2⟩, fun c ec => ?_⟩
  · rcases z with z | z
    · exact sub c (z.imp (fun w => .inl w) id)
    · exact sub c (.inl (.inr z))
  · rcases z with z | ⟨j, y, f1, f2, f3⟩
    · exact own.1 z
    · exact (old f1).1 (S.inj i j _ y a e rfl (old f1).2 f2 hs f3)
  · cases ec; exact S2
theorem retM_use {K : PySem.W.Frag} {H₀ : Hp} {B : Nat → Addr → Prop} {Z : Addr → Prop} {ρ : Env} {σ : St} {H : Hp} {v : V} {D : Ends} {x : Rv} (h : sAt K cad W H₀ B Z ρ (retM x) D σ H) (r : RpF K H₀ B Z ρ σ H v x) : D.rt v H := by
  obtain ⟨S, h⟩ := h
  match x, r with
  | .v y, r => exact h v σ H S r
  | .al i, ⟨r, _⟩ =>
    have r : σ[i]? = some (some v) := r
    unfold retM at h
    dsimp only at h
    cases e : getS ρ i with
    | none => rw [e] at h; exact h.elim
    | some y =>
      rw [e] at h
      obtain ⟨w, s1, q⟩ := S.slot i y e
      rw [r] at s1; cases s1
      cases y with
      | val d => exact h v σ H S ⟨q, trivial⟩
      | dic _ _ => exact q.elim
      | lok _ => exact h.elim
      | own xs b =>
        obtain ⟨a, us, rfl, q1, q2⟩ := q
        cases b with
        | true =>
          obtain ⟨_, S', q'⟩ := S.freeze e
          exact h _ σ H S' ⟨q' _ r, trivial⟩
        | false =>
          obtain ⟨S', q'⟩ := S.release e r
          exact h _ σ H S' q'
theorem DS.ret {e : Expr} {f : M Rv} (he : DE X cad W T e f) : DS X cad W (.Return (some e) pos) (f.bind fun r => retM r) :=
  ps_of (ps_ret he.2) fun D σ H ⟨H₀, B, Z, ρ, h⟩ => h.to he.1 fun x ρ1 v H1 _ _ p h1 => retM_use h1 p
/-! ### stores -/
theorem asgM_use {K : PySem.W.Frag} {H₀ : Hp} {B : Nat → Addr → Prop} {Z : Addr → Prop} {ρ : Env} {σ : St} {H : Hp} {v : V} {D : Ends} {i : Nat} {x : Rv} (h : sAt K cad W H₀ B Z ρ ((asgM (.name i) x).bind fun _ => M.ret .next) D σ H) (r : RpF K H₀ B Z ρ σ H v x) : D.nx (σ.set i (some v)) H := by
  have S := h.1
  match x, r with
  | .v y, r =>
    have h' : sAt K cad W H₀ B Z ρ ((putV i y).bind fun _ => M.ret .next) D σ H := h
    rcases putV_ok (ρ := ρ) (i := i) (x := y) with e | ⟨hf, e⟩
    · exact (h'.bad e).elim
    · exact (h'.go e (S.put r hf)).next
  | .al j, ⟨r, _⟩ =>
    have h' : sAt K cad W H₀ B Z ρ (((freeze (.al j)).bind fun d => asgD (.name i) d).bind fun _ => M.ret .next) D σ H := h
    rw [M.assoc] at h'
    obtain ⟨d, ρ', le, q, h2⟩ := h'.freeze r
    simp only [asgD] at h2
    rcases putV_ok (ρ := ρ') (i := i) (x := .val d) with e | ⟨hf, e⟩
    · exact (h2.bad e).elim
    · exact (h2.go e (h2.1.put (v := v) (x := .val d) ⟨q, trivial⟩ hf)).next
theorem DS.asg {i : Nat} {x : Str} {e : Expr} {f : M Rv} {pos' : Pos} (hN : X.N.Nodup) (hi : X.N[i]? = some x) (hx : Loc X.env.scope x) (hf : X.fn x = true ∨ X.env.scope.names.lookup x = some .local) (hs : swapsWith e (some (.Name x pos')) pos.line X.env = pure false) (he : DE X cad W T e f) :
    DS X cad W (.Assign [.Name x pos'] e pos) (f.bind fun r => (asgM (.name i) r).bind fun _ => M.ret .next) :=
  ps_of (ps_set hN hi hx he.2 hs hf) fun D σ H ⟨H₀, B, Z, ρ, h⟩ => h.to he.1 fun x ρ1 v H1 _ _ p h1 => asgM_use h1 p
/-- (a, b, ..) = e -/
theorem DS.asgT {elts : List Expr} {kk : Nat} {tpos : Pos} {e : Expr} {f : M Rv} {t : Tg} (ht : ∀ i, t ≠ .name i) (hg : PG X (.Tuple elts kk tpos) (gR X.K t)) (hs : swapsWithSole [.Tuple elts kk tpos] e pos.line X.env = pure false) (hw : swappedStores [.Tuple elts kk tpos] e X.env = pure none) (he : DE X cad W T e f) :
    DS X cad W (.Assign [.Tuple elts kk tpos] e pos) (f.bind fun r => (asgM t r).bind fun _ => M.ret .next) :=
  ps_of (ps_asg he.2 hg hs hw rfl) fun D σ H ⟨H₀, B, Z, ρ, h⟩ => h.to he.1 fun x ρ1 v H1 _ _ p h1 => by
    have e1 : asgM t x = (freeze x).bind fun d => asgD t d := by
      cases t with
      | name i => exact absurd rfl (ht i)
      | _ => rfl
    rw [e1, M.assoc] at h1
    obtain ⟨d, ρ2, le, q, h2⟩ := h1.freeze p.1
    rcases asgD_ok t d ρ2 σ v h2.1 q with e | ⟨ρ3, σ3, e, S3, c3, g3⟩
    · exact (h2.bad e).elim
    · exact g3 _ (h2.go e S3).next
/-- name = [.. for ..] -/
theorem DS.asgC {i : Nat} {y : Str} {py : Pos} {elt tg iter : Expr} {ifs : List Expr} {scope : Scope} {own : List (Str × Nat)} {cpos : Pos} {t : Tg} {src : M (List PD)} {c : M Bool} {el : M Rv} (hcm : X.calm = true) (hN : X.N.Nodup) (hi : X.N[i]? = some y) (hyl : X.env.scope.names.lookup y = some .local)
    (hsw : swapsWith (.ListComp elt [⟨tg, iter, ifs, 0⟩] scope cpos) (some (.Name y py)) pos.line X.env = pure true) (ok : BlkOk X.N X.env.scope scope own) (hns : ∀ j, j ∈ namesT t → j ∈ own.map (·.2))
    (hs : ∀ x, foldedSetIterable iter X.env x = pure x) (hit : DI X cad W T tg iter src)
    (hg : ∀ (s : Shared) (H : Hp) (C : Addr) (cl : List (Str × Addr)) (fp : List Addr), PG (X.blk s H scope (compEnvC scope cl C X.env) fp) tg (gR X.K t))
    (mc : MOk T c) (ht : ∀ (s : Shared) (H : Hp) (C : Addr) (cl : List (Str × Addr)) (fp : List Addr), PTs (X.blk s H scope (compEnvC scope cl C X.env) fp) ifs (tW X.K cad W0 T c PB))
    (me : MOk T el) (he : ∀ (s : Shared) (H : Hp) (C : Addr) (cl : List (Str × Addr)) (fp : List Addr), PE (X.blk s H scope (compEnvC scope cl C X.env) fp) elt (tW X.K cad W0 T el (RpF X.K))) :
    DS X cad W (.Assign [.Name y py] (.ListComp elt [⟨tg, iter, ifs, 0⟩] scope cpos) pos) ((src.bind fun ds => compM (own.map (·.2)) t c el ds).bind fun r => (asgM (.name i) r).bind fun _ => M.ret .next) :=
  ps_of (ps_setLc hcm hN hi hyl hsw hit.2 ok hg ht he hs) fun D σ H ⟨H₀, B, Z, ρ, h⟩ =>
    comp_use (tg := tg) (iter := iter) hns hit.1 mc me (h.to (.bind hit.1 fun ds => .comp mc me hns) fun x ρ1 v H1 _ _ p h1 => asgM_use h1 p)
theorem setM_ok {ρ : Env} {i : Nat} {k d : PD} : setM i k d ρ = .bad ∨ ∃ (xs : List PD) (b : Bool) (z : Int) (j : Nat), getS ρ i = some (.own xs b) ∧ k = .int z ∧ L2.ixN xs.length z = some j ∧ setM i k d ρ = .ok () (ρ.set i (some (.own (xs.set j d) b))) := by
  unfold setM
  cases e : getS ρ i with
  | none => exact .inl rfl
  | some y =>
    cases y with
    | own xs b =>
      cases k with
      | int z =>
        dsimp only
        cases e2 : L2.ixN xs.length z with
        | none => exact .inl rfl
        | some j => exact .inr ⟨xs, b, z, j, rfl, rfl, e2, rfl⟩
      | _ => exact .inl rfl
    | _ => exact .inl rfl
/-- xs[ix] = e -/
theorem DS.setIx {i : Nat} {x : Str} {ix e : Expr} {f g : M Rv} {p2 p3 : Pos} (hN : X.N[i]? = some x) (hv : Vis X.env.scope x) (hd : (x == ("__debug__" : Str)) = false) (hcd : (x == ("__classdict__" : Str)) = false) (he : DE X cad W T e f) (hix : DE X cad W T ix g)
    (hs : swapsWithSole [.Subscript (.Name x p2) ix p3] e pos.line X.env = pure false) (ha : ∀ v, assign (.Subscript (.Name x p2) ix p3) X.env v = (do
      let ov ← holding [v] (eval (.Name x p2) X.env)
      let iv ← holding [v, ov] (eval ix X.env)
      standAt p3
      holding [v, ov, iv] (setItem ov iv v)
      release [v, ov, iv] [])) :
    DS X cad W (.Assign [.Subscript (.Name x p2) ix p3] e pos) (f.bind fun r => (freeze r).bind fun d => (chkOwn i).bind fun _ => g.bind fun x => (peekR x).bind fun k => (setM i k d).bind fun _ => M.ret .next) :=
  ps_of (ps_asg he.2 (pg_sub (pe_var hN hv hd hcd) hix.2 set_list ha) hs rfl rfl) fun D σ H ⟨H₀, B, Z, ρ, h⟩ => h.to he.1 fun y ρ1 v H1 _ _ p h1 => by
    obtain ⟨d, ρ2, le, q, h2⟩ := h1.freeze p.1
    rcases chkOwn_ok (ρ := ρ2) (i := i) with e1 | ⟨xs, b, e2, e1⟩
    · exact (h2.bad e1).elim
    · have h3 := h2.go e1 h2.1
      obtain ⟨w, s1, a, us, rfl, _, _⟩ := h2.1.slot i _ e2
      refine ⟨_, s1, h3.to hix.1 fun z ρ3 u H3 le3 ev3 p3 h4 => ?_⟩
      obtain ⟨k, qk, h5⟩ := h4.peek p3.1
      rcases setM_ok (ρ := ρ3) (i := i) (k := k) (d := d) with e3 | ⟨xs3, b3, z3, j, g1, rfl, g2, e3⟩
      · exact (h5.bad e3).elim
      · obtain ⟨w, s2, a2, us2, rfl, t1, t2⟩ := h5.1.slot i _ g1
        rw [s1] at s2; cases s2
        obtain ⟨w1, w2, w3⟩ := h5.1.write g1 s1 (t2.set j (q.step le3 ev3))
        exact ⟨a, us2, z3, j, rfl, Rp.int_inv qk, t1, by rw [t2.length]; exact g2, (h5.go e3 w3).next⟩
theorem intS_ok {ρ : Env} {i : Nat} : intS i ρ = .bad ∨ ∃ m, getS ρ i = some (.val (.int m)) ∧ intS i ρ = .ok m ρ := by
  unfold intS
  cases e : getS ρ i with
  | none => exact .inl rfl
  | some y =>
    cases y with
    | val d =>
      cases d with
      | int m => exact .inr ⟨m, rfl, rfl⟩
      | _ => exact .inl rfl
    | _ => exact .inl rfl
/-- name += e, ints -/
theorem DS.aug {i : Nat} {x : Str} {e : Expr} {f : M Rv} {p2 : Pos} (hN : X.N.Nodup) (hi : X.N[i]? = some x) (hx : Loc X.env.scope x) (hf : X.fn x = true ∨ X.env.scope.names.lookup x = some .local) (he : DE X cad W T e f) :
    DS X cad W (.AugAssign (.Name x p2) .Add e pos) ((intS i).bind fun m => f.bind fun x => (peekR x).bind fun d => (M.ofO (intD d)).bind fun n => (putV i (.val (.int (m + n)))).bind fun _ => M.ret .next) :=
  ps_of (ps_aug hN hi hx he.2 ip_add hf) fun D σ H ⟨H₀, B, Z, ρ, h⟩ => by
    rcases intS_ok (ρ := ρ) (i := i) with e1 | ⟨m, e2, e1⟩
    · exact (h.bad e1).elim
    · obtain ⟨w, s1, r⟩ := h.1.slot i _ e2
      have h1 := h.go e1 h.1
      refine ⟨w, s1, h1.to he.1 fun y ρ1 v H1 le ev p h2 => ?_⟩
      obtain ⟨d, qd, h3⟩ := h2.peek p.1
      cases ed : intD d with
      | none => rw [ed] at h3; exact (h3.bad rfl).elim
      | some n =>
        rw [ed] at h3
        have h4 := h3.go (a := n) rfl h3.1
        have e3 : d = .int n := by cases d <;> first | (cases ed; rfl) | cases ed
        subst e3
        refine ⟨m, n, Rp.int_inv r, Rp.int_inv qd, ?_⟩
        rcases putV_ok (ρ := ρ1) (i := i) (x := .val (.int (m + n))) with e | ⟨hf, e⟩
        · exact (h4.bad e).elim
        · exact (h4.go e (h4.1.put (v := .int (m + n)) (x := .val (.int (m + n))) ⟨.int _, trivial⟩ hf)).next
/-! ### loops -/
section
variable {K : PySem.W.Frag} {H₀ : Hp} {B : Nat → Addr → Prop} {Z : Addr → Prop} {ρ ρ' : Env} {σ σ' : St} {H H' : Hp} {v : V} {D : Ends}
/-- what is wanted behind a loop's statement, told from the loop's start -/
theorem RpF.unbase (S : StOk K H₀ B Z ρ σ H) {x : Vl} (r : RpF K (bH ρ σ H) (bB ρ σ) Z ρ' σ' H' v (.v x)) : RpF K H₀ B Z ρ' σ' H' v (.v x) := by
  match x, r with
  | .val d, ⟨r, _⟩ => exact ⟨r, trivial⟩
  | .own xs false, ⟨⟨a, us, e, h1, h2, h3, h4⟩, sp⟩ =>
    have n := S.b_none h4
    refine ⟨⟨a, us, e, h1, h2, h3, n⟩, fun c ec => S.unbase (sp c ec) fun b z => ?_⟩
    rw [e] at ec; cases ec
    rcases z with z | z
    · exact (S.zok b z).2
    · subst z
      exact fun ⟨i, hb⟩ => by
        obtain ⟨o, eo⟩ := S.bt₀ i _ hb
        rw [n] at eo; cases eo
theorem sAt.rebase {f : M Fl} (h : sAt K cad W H₀ B Z ρ f D σ H) : sAt K cad W (bH ρ σ H) (bB ρ σ) Z ρ f { nx := D.nx, rt := D.rt, bk := D.bk, ct := D.ct } σ H := by
  obtain ⟨S, h⟩ := h
  have ub : ∀ {ρ' : Env} {σ' : St} {H' : Hp}, StOk K (bH ρ σ H) (bB ρ σ) Z ρ' σ' H' → StOk K H₀ B Z ρ' σ' H' := fun S' => S.unbase S' fun a z => (S.zok a z).2
  refine ⟨S.rebase, ?_⟩
  cases e : f ρ with
  | bad => rw [e] at h; exact h
  | ex c ρ1 => rw [e] at h; exact fun cl d σ' H' S' x => h cl d σ' H' (ub S') x
  | ok k ρ1 =>
    rw [e] at h
    cases k with
    | next => exact fun σ' H' S' => h σ' H' (ub S')
    | brk => exact fun σ' H' S' => h σ' H' (ub S')
    | cont => exact fun σ' H' S' => h σ' H' (ub S')
    | ret x => exact fun v σ' H' S' r => h v σ' H' (ub S') (r.unbase S)
end
theorem DS.for {tg iter : Expr} {body : List Stmt} {t : Tg} {src : M (List PD)} {b : M Fl} (hp : PassesOwn (model X.prog X.w) X.A X.env X.xe) (hc : X.calm = true) (hi : DI X cad W T tg iter src) (hg : PG X tg (gR X.K t)) (hb : DSs X cad W body b) (hs : ∀ x, foldedSetIterable iter X.env x = pure x) :
    DS X cad W (.For tg iter body [] pos) (src.bind fun ds => forM t b ds) :=
  ps_of (ps_for hp hc hi.2 hg hb hs) fun D σ H ⟨H₀, B, Z, ρ, h⟩ => by
    refine h.to hi.1 fun ds ρ1 J H1 le1 ev1 p1 h1 => ?_
    obtain ⟨s, rfl, hok, hlen⟩ := p1
    have hn := hok.n
    have S1 := h1.1
    have h2 := h1.rebase
    refine for_it s.walk (fun i σi Hi => ∃ ρi, sAt X.K cad W (bH ρ1 σ H1) (bB ρ1 σ) Z ρi (forM t b (ds.drop i)) D σi Hi) ⟨ρ1, by rw [List.drop_zero]; exact h2⟩ (fun i σi Hi _ ⟨ρi, hi⟩ => (hok.mono (S1.kept hi.1)).g) (fun i x σi Hi Hi' hi ⟨ρi, h3⟩ hy => ?_) fun σi Hi ⟨ρi, h3⟩ => ?_
    · have oki := hok.mono (S1.kept h3.1)
      obtain ⟨sm, d, ed, r⟩ := oki.step (fun a z => h3.1.tracked z) hi hy
      have hi' : i < ds.length := by rw [← hn]; exact hi
      have hdrop : ds.drop i = ds[i] :: ds.drop (i + 1) := List.drop_eq_getElem_cons hi'
      rw [hdrop] at h3
      rw [List.getElem?_eq_getElem hi'] at ed
      cases ed
      simp only [forM] at h3
      rcases asgD_ok t ds[i] ρi σi x (h3.1.same sm) r with e | ⟨ρ2, σ2, e, S2, c2, g2⟩
      · exact (h3.bad e).elim
      · refine g2 _ ?_
        have h4 := h3.go e S2
        obtain ⟨_, h4⟩ := h4
        refine ⟨_, _, _, ρ2, S2, ?_⟩
        simp only [M.bind] at h4
        cases e3 : b ρ2 with
        | bad => rw [e3] at h4; exact h4
        | ex c ρ3 => rw [e3] at h4; exact h4
        | ok k ρ3 =>
          rw [e3] at h4
          cases k with
          | next => exact fun σ' H' S' => ⟨ρ3, S', h4⟩
          | cont => exact fun σ' H' S' => ⟨ρ3, S', h4⟩
          | brk => exact h4
          | ret x => exact h4
    · rw [hn, List.drop_length] at h3
      exact h3.next
theorem DS.whl {c : Expr} {body : List Stmt} {t : M Bool} {b : M Fl} (hp : PassesOwn (model X.prog X.w) X.A X.env X.xe) (hc : DT X cad W T c t) (hb : DSs X cad W body b) (n : Nat) :
    DS X cad W (.While c body [] pos) (whileM t b n) :=
  ps_of (ps_while hp hc.2.1 hb) fun D σ H ⟨H₀, B, Z, ρ, h⟩ => by
    refine ⟨fun m σ H => ∃ ρ, sAt X.K cad W H₀ B Z ρ (whileM t b m) D σ H, ⟨n, ρ, h⟩, fun m σ H ⟨ρ, h⟩ => ?_⟩
    cases m with
    | zero => exact h.2.elim
    | succ m =>
      simp only [whileM] at h
      refine h.to hc.1 fun k ρ1 v H1 _ _ p h1 => ?_
      have p : v = k := p
      subst p
      cases v with
      | false => exact h1.next
      | true =>
        rw [if_pos rfl] at h1 ⊢
        refine ⟨fun σ' H' => ∃ ρ, sAt X.K cad W H₀ B Z ρ (whileM t b m) D σ' H', fun σ' H' q => ⟨m, Nat.lt_succ_self m, q⟩, H₀, B, Z, ρ1, h1.1, ?_⟩
        obtain ⟨_, h4⟩ := h1
        simp only [M.bind] at h4
        cases e3 : b ρ1 with
        | bad => rw [e3] at h4; exact h4
        | ex c ρ3 => rw [e3] at h4; exact h4
        | ok k ρ3 =>
          rw [e3] at h4
          cases k with
          | next => exact fun σ' H' S' => ⟨ρ3, S', h4⟩
          | cont => exact fun σ' H' S' => ⟨ρ3, S', h4⟩
          | brk => exact h4
          | ret x => exact h4
end
end Gn

/-! Gn, part L: two names at once; exceptions. -/
namespace Gn
open PySem PySem.Spec L2
open PyProof.Rows hiding St

section
variable {α δ : Type} {K : PySem.W.Frag} {cad : Nat → Option Addr} {W : WX} {T : List Nat} {H₀ : Hp} {B : Nat → Addr → Prop} {Z : Addr → Prop} {ρ ρ' : Env} {σ σ' : St} {H H' : Hp} {v : V} {D : Ends}
theorem settled_v {f : M Rv} {x : Rv} {ρ1 : Env} (h : (f.bind settle) ρ = .ok x ρ1) : ∃ y, x = .v y := by
  obtain ⟨a, ρ2, _, e⟩ := M.bind_ok h
  cases a with
  | v y => cases e; exact ⟨y, rfl⟩
  | al i =>
    have e : ((freeze (.al i)).bind fun d => M.ret (.v (.val d))) ρ2 = .ok x ρ1 := e
    obtain ⟨d, ρ3, _, e2⟩ := M.bind_ok e
    cases e2; exact ⟨_, rfl⟩
theorem sAt.toE {f : M Rv} {g : Rv → M Fl} {Q1 : V → Hp → Prop} (h : sAt K cad W H₀ B Z ρ (f.bind g) D σ H)
    (k : ∀ a ρ1 v H1, f ρ = .ok a ρ1 → Ev T ρ σ H H1 → RpF K H₀ B Z ρ1 σ H1 v a → sAt K cad W H₀ B Z ρ1 (g a) D σ H1 → Q1 v H1) : tW K cad W T f (RpF K) σ H Q1 := by
  obtain ⟨S, h⟩ := h
  refine ⟨H₀, B, Z, ρ, S, ?_⟩
  unfold M.bind at h
  cases e : f ρ with
  | bad => rw [e] at h; exact h
  | ex c ρ1 =>
    rw [e] at h
    exact fun cl d H' S' _ x => h cl d σ H' S' x
  | ok a ρ1 =>
    rw [e] at h
    exact fun v H1 S1 ev p => k a ρ1 v H1 e ev p ⟨S1, h⟩
/-- Z and the new list of the value x at v -/
def ZX (Z : Addr → Prop) (x : Vl) (v : V) (c : Addr) : Prop := Z c ∨ (isOwn x = true ∧ v = .ref c)
theorem zx_of (S : StOk K H₀ B Z ρ σ H) {x : Vl} (r : RpF K H₀ B Z ρ σ H v (.v x)) : StOk K H₀ B (ZX Z x v) ρ σ H := by
  match x, r with
  | .val d, _ => exact S.dropZ fun a z => z.elim id fun w => nomatch w.1
  | .own xs false, ⟨⟨a, us, e, _⟩, sp⟩ => exact (sp a e).dropZ fun c z => z.imp id fun w => V.ref.inj (w.2.symm.trans e)
/-- the first of two values, behind the second's evaluation -/
theorem keep_first (S1 : StOk K H₀ B Z ρ σ H) {x : Vl} (r : RpF K H₀ B Z ρ σ H v (.v x)) {Y : Addr → Prop} (hY : ∀ a, Y a → H a = none ∨ Ow ρ σ a) (le : EnvLe T ρ ρ') (ev : Ev T ρ σ H H') (S2 : StOk K H₀ B (fun c => ZX Z x v c ∨ Y c) ρ' σ H') : RpF K H₀ B (fun c => Z c ∨ Y c) ρ' σ H' v (.v x) := by
  have Sx := zx_of S1 r
  match x, r with
  | .val d, ⟨r, _⟩ =>
    refine ⟨Rp.mono (fun c o q => ⟨(ev.tr le c o q).1, fun z => ?_⟩) d v r, trivial⟩
    rcases z with (z | z) | z
    · exact q.2 (.inl z)
    · rcases hY c z with w | w
      · rw [q.1] at w; cases w
      · exact q.2 (.inr w)
    · exact q.2 (le.oo (Z := Z) (.inr z))
  | .own xs false, ⟨⟨a, us, e, h1, h2, h3, h4⟩, sp⟩ =>
    have na : ¬ ∃ i ∈ T, ∃ x, getS ρ i = some x ∧ isOwn x = true ∧ σ[i]? = some (some (.ref a)) := fun ⟨i, _, x, g1, g2, g3⟩ => h3 (.inr ⟨i, x, g1, g2, g3⟩)
    refine ⟨⟨a, us, e, ev a _ h1 na, RpL.mono (fun c o q => ?_) _ _ h2, fun z => ?_, h4⟩, fun c ec => ?_⟩
    · have q' : Tr (OO Z ρ σ) H c o := OA.tr c o q
      refine ⟨(ev.tr le c o q').1, fun z => ?_⟩
      rcases z with ((z | z) | z) | z
      · exact q.2 (.inl (.inl z))
      · rcases hY c z with w | w
        · rw [q.1] at w; cases w
        · exact q.2 (.inl (.inr w))
      · exact q'.2 (le.oo (Z := Z) (.inr z))
      · exact q.2 (.inr z)
    · rcases z with (z | z) | z
      · exact h3 (.inl z)
      · rcases hY a z with w | w
        · rw [h1] at w; cases w
        · exact h3 (.inr w)
      · exact h3 (le.oo (Z := Z) (.inr z))
    · have ec : c = a := by
        rw [e] at ec; cases ec; rfl
      subst ec
      refine S2.dropZ fun b z => ?_
      rcases z with (z | z) | z
      · exact .inl (.inl z)
      · exact .inr z
      · exact .inl (.inr ⟨rfl, by rw [z]; exact e⟩)
end
section
variable {X : Cx} {cad : Nat → Option Addr} {W : WX} {T : List Nat} {pos : Pos}
/-- a, b = x, y -/
theorem DS.par {i j : Nat} {x y : Str} {a b : Expr} {f g : M Rv} {px py pt : Pos} {kt k2 : Nat} {pt2 : Pos} (hc : X.calm = true) (hN : X.N.Nodup) (hi : X.N[i]? = some x) (hj : X.N[j]? = some y) (hij : i ≠ j)
    (hx : X.env.scope.names.lookup x = some .local) (hy : X.env.scope.names.lookup y = some .local) (ns : NoStar a) (ns2 : NoStar b)
    (hw : swappedStores [.Tuple [.Name x px, .Name y py] kt pt] (.Tuple [a, b] k2 pt2) X.env = pure (some [x, y])) (hs : swapsWithSole [.Tuple [.Name x px, .Name y py] kt pt] (.Tuple [a, b] k2 pt2) pos.line X.env = pure false)
    (ha : DE X cad W T a f) (hb : DE X cad W T b g) :
    DS X cad W (.Assign [.Tuple [.Name x px, .Name y py] kt pt] (.Tuple [a, b] k2 pt2) pos)
      ((f.bind settle).bind fun x => (g.bind settle).bind fun y => (parM [.name i, .name j] [x, y]).bind fun _ => M.ret .next) :=
  ps_of (ps_par hc hN hi hj hij hx hy (pa_cons ha.stl.2 (pa_cons hb.stl.2 pa_nil (ns2 _ _)) (ns _ _)) hw hs) fun D σ H ⟨H₀, B, Z, ρ, h⟩ => by
    refine h.toE fun x' ρ1 v H1 e1 ev1 r1 h1 => ?_
    obtain ⟨x1, rfl⟩ := settled_v e1
    have S1 := h1.1
    have Sx := zx_of S1 r1
    have Sb := Sx.rebase
    obtain ⟨_, h1⟩ := h1
    refine ⟨bH ρ1 σ H1, bB ρ1 σ, ZX Z x1 v, ρ1, Sb, ?_⟩
    unfold M.bind at h1
    dsimp only at h1
    cases e2 : (g.bind settle) ρ1 with
    | bad =>
      have e2' := e2
      unfold M.bind at e2'
      rw [e2'] at h1; exact h1.elim
    | ex c ρ2 =>
      have e2' := e2
      unfold M.bind at e2'
      rw [e2'] at h1
      exact fun cl d H' S' _ q => h1 cl d σ H' ((Sx.unbase S' fun a z => (Sx.zok a z).2).dropZ fun a z => .inl z) q
    | ok y' ρ2 =>
      obtain ⟨y1, rfl⟩ := settled_v e2
      have e2' := e2
      unfold M.bind at e2'
      rw [e2'] at h1
      intro w H2 S2' ev2 r2'
      have le2 : EnvLe T ρ1 ρ2 := hb.stl.1.ok e2
      have S2 : StOk X.K H₀ B (ZX Z x1 v) ρ2 σ H2 := Sx.unbase S2' fun a z => (Sx.zok a z).2
      have r2 : RpF X.K H₀ B (ZX Z x1 v) ρ2 σ H2 w (.v y1) := r2'.unbase Sx
      have S2z : StOk X.K H₀ B Z ρ2 σ H2 := S2.dropZ fun a z => .inl z
      have k1 : RpF X.K H₀ B (fun c => Z c ∨ False) ρ2 σ H2 v (.v x1) := keep_first (Y := fun _ => False) S1 r1 (fun a z => z.elim) le2 ev2 (S2.dropZ fun a z => z.elim id False.elim)
      have eZ : (fun c => Z c ∨ False) = Z := by
        funext c
        exact propext ⟨fun z => z.elim id False.elim, .inl⟩
      rw [eZ] at k1
      have h1 : match ((putV i x1).bind fun _ => (putV j y1).bind fun _ => M.ret ()) ρ2 with
        | .ok _ ρ' => ∀ σ' H', StOk X.K H₀ B Z ρ' σ' H' → D.nx σ' H'
        | .ex c ρ' => ∀ cl d σ' H', StOk X.K H₀ B Z ρ' σ' H' → ExIs cad c cl d H' → W cl d σ' H'
        | .bad => False := by
        have e3 : parM [.name i, .name j] [.v x1, .v y1] = (putV i x1).bind fun _ => (putV j y1).bind fun _ => M.ret () := rfl
        have h2 := h1
        dsimp only at h2
        rw [e3] at h2
        cases q : ((putV i x1).bind fun _ => (putV j y1).bind fun _ => M.ret ()) ρ2 with
        | ok u ρ3 => rw [q] at h2; exact h2
        | ex c ρ3 => rw [q] at h2; exact h2
        | bad => rw [q] at h2; exact h2
      refine ⟨v, w, rfl, ?_⟩
      rcases putV_ok (ρ := ρ2) (i := i) (x := x1) with e | ⟨hf, e⟩
      · simp only [M.bind, e] at h1
      · rcases putV_ok (ρ := ρ2.set i (some x1)) (i := j) (x := y1) with e' | ⟨hf', e'⟩
        · simp only [M.bind, e, e'] at h1
        · simp only [M.bind, e, e', M.ret] at h1
          have S3 := S2z.put k1 hf
          have hi2 := free_lt hf
          refine h1 _ _ (S3.put ?_ hf')
          have sub : ∀ c, OO Z (ρ2.set i (some x1)) (σ.set i (some v)) c → OO (ZX Z x1 v) ρ2 σ c := fun c z => by
            rcases OO.put hi2 z S2z.len with z | z
            · exact z.imp (fun q => .inl q) id
            · exact .inl (.inr z)
          match y1, r2, r2' with
          | .val d, ⟨r, _⟩, _ => exact ⟨Rp.mono (fun c o q => ⟨q.1, fun z => q.2 (sub c z)⟩) d w r, trivial⟩
          | .own ys false, ⟨⟨a, us, ea, q1, q2, q3, q4⟩, sp⟩, ⟨⟨a', us', ea', q1', q2', q3', q4'⟩, sp'⟩ =>
            rw [ea] at ea'; cases ea'
            refine ⟨⟨a, us, ea, q1, RpL.mono (fun c o q => ⟨q.1, fun z => q.2 (z.imp (sub c) id)⟩) _ _ q2, fun z => q3 (sub a z), q4⟩, fun c ec => ?_⟩
            rw [ea] at ec; cases ec
            have Sa := sp a ea
            have k2 : RpF X.K H₀ B (fun c => Z c ∨ c = a) ρ2 σ H2 v (.v x1) := keep_first (Y := fun c => c = a) S1 r1 (fun b z => by
              subst z
              rcases bH_none q4' with z | ⟨j', x2, g1, g2, _, g4⟩
              · exact .inl z
              · exact .inr ⟨j', x2, g1, g2, g4⟩) le2 ev2 Sa
            exact (Sa.dropZ fun c z => z.imp (fun q => .inl q) id).put k2 hf
end
/-! ### several clauses, each with a name -/
/-- what the clauses wish: class, slot of the name, suite -/
def wNames (K : PySem.W.Frag) (V0 : WX) (D : Ends) : List (Value × Nat × (Addr → Value → Option Addr → TS)) → WX
  | [] => V0
  | (c, i, ts) :: r => fun cl d σ H => ∃ b, PySem.W.exmOne K cl c = some b ∧
      (b = true → ∀ a, H a = none → ts a cl d { nx := fun σ' H' => D.nx (σ'.set i none) H', rt := D.rt, bk := fun σ' H' => D.bk (σ'.set i none) H', ct := fun σ' H' => D.ct (σ'.set i none) H' } (σ.set i (some (.ref a))) H) ∧
      (b = false → wNames K V0 D r cl d σ H)
inductive Clauses (X : Cx) : List ExceptHandler → List (Value × Nat × (Addr → Value → Option Addr → TS)) → Prop
  | nil : Clauses X [] []
  | cons {x n : Str} {i : Nat} {c : Value} {ts : Addr → Value → Option Addr → TS} {b0 : Stmt} {su : List Stmt} {np p' : Pos} {hds : List ExceptHandler} {l : List (Value × Nat × (Addr → Value → Option Addr → TS))} (hc : Names X x c) (hi : X.N[i]? = some n) (hn : X.env.kindOf n = some .local)
      (hsu : ∀ (a : Addr) (oe : Obj) (cl : Value) (d : Option Addr) (pn : List (Addr × Obj)), Zc cl d oe → (∃ vs, oe.data = .fields vs) → PSs (X.suite a ((a, oe) :: pn)) (b0 :: su) (ts a cl d)) (r : Clauses X hds l) :
      Clauses X (.ExceptHandler (some (.Name x np)) (some n) (b0 :: su) p' :: hds) ((c, i, ts) :: l)
section
variable {X : Cx} {body : List Stmt} {h0 : ExceptHandler} {hds : List ExceptHandler} {l : List (Value × Nat × (Addr → Value → Option Addr → TS))} {pos : Pos} {tb : WX → TS} {V0 : WX}
theorem SP.untry {pins : List (Addr × Obj)} {D : Ends} {f : Flow} {s1 : Shared} {xe : Value → Shared → Prop} (ok : X.Ok) (h : SP (X.tr (X.pn ++ pins) xe) [] D f s1) : SP X pins D f s1 := by
  cases f with
  | next => exact let ⟨σ', H', J, q⟩ := h; ⟨σ', H', J.ofTry ok, q⟩
  | brk => exact let ⟨σ', H', J, q⟩ := h; ⟨σ', H', J.ofTry ok, q⟩
  | cont => exact let ⟨σ', H', J, q⟩ := h; ⟨σ', H', J.ofTry ok, q⟩
  | ret u => exact let ⟨v, σ', H', J, r, q⟩ := h; ⟨v, σ', H', J.ofTry ok, r, q⟩
theorem ps_try_names (hst : X.stack = X.env :: X.outer) (hfr : X.env.frame = some X.env.locals) (nd : X.N.Nodup) (tk : Takes X V0)
    (hb : ∀ (V : WX) (pn : List (Addr × Obj)) (xe : Value → Shared → Prop), Takes (X.tr pn xe) V → PassesOwn (model X.prog X.w) X.A X.env xe → PSs (X.tr pn xe) body (tb V))
    (hh : Clauses X (h0 :: hds) l) : PS X (.Try body (h0 :: hds) [] [] pos) (fun D σ H => tb (wNames X.K V0 D l) D σ H) := by
  refine ⟨fun pins s σ H D I hw => ?_⟩
  have ok := I.ok
  have fr : X.A.frames = some (X.env :: X.outer) := ok.frames.trans (congrArg some hst)
  refine wpAny_Try_except (wpAny_mono ((hb (wNames X.K V0 D l) (X.pn ++ pins) (fun e s1 => wpAny (model X.prog X.w) X.A (noteFrame e X.env) (fun _ s2 => wpAny (model X.prog X.w) X.A (setFlight e none) (fun _ s3 =>
    wpAny (model X.prog X.w) X.A (handleBy e X.env (h0 :: hds)) (SP X pins D) X.xe s3) X.xe s2) X.xe s1) (fun u t xx => ?_) PassesOwn.looking).run [] s σ H D (I.toTry _) hw) (fun f s1 q => ?_) fun _ _ q => q)
  · obtain ⟨a, G, sI, ps, τ, J, cl, d, rfl, IJ, nb, up, sky, na, os, ag, w⟩ := xx
    have IJ' : Inv X pins τ J sI := IJ.ofTry ok
    have sky2 : Sky G (X.env :: X.outer) a (Zc cl d) X.env.locals t.heap := hst ▸ sky
    show wpAny (model X.prog X.w) X.A (noteFrame (.ref a) X.env) _ _ _
    refine Sky.land Zc.steady fr hfr sky2 fun g3 fl3 up3 => ?_
    have I3 : Inv X pins τ J { t with heap := g3 } := IJ'.landed nb fl3.1 (up.trans up3) os ag
    obtain ⟨o3, us3, ho3, z3, f3⟩ := fl3.there
    have apart : a ∉ frs (X.env :: X.outer) := fun hm => by
      obtain ⟨_, o', e', k⟩ := fl3.2.2.1.mem hm
      rw [ho3] at e'; cases e'
      exact k _ f3
    have nl : a ≠ X.env.locals := fun z => apart (List.mem_filterMap.mpr ⟨X.env, List.mem_cons_self, by rw [hfr, z]⟩)
    have nf : a ∉ X.fs := fun hm => let ⟨e, he, k⟩ := List.mem_filterMap.mp hm; apart (List.mem_filterMap.mpr ⟨e, List.mem_cons_of_mem _ he, k⟩)
    have S3 := I3.suite ho3 f3 na nl nf
    have LT : PySem.W.Looks (model X.prog X.w) g3 (typeOf (.ref a)) cl := fun A Q E s k q => wpAny_typeOf_ref (k _ _ ho3) (z3.1.symm ▸ q)
    have go : ∀ {hs' : List ExceptHandler} {l' : List (Value × Nat × (Addr → Value → Option Addr → TS))}, Clauses X hs' l' → wNames X.K V0 D l' cl d τ J → wpAny (model X.prog X.w) X.A (handleBy (.ref a) X.env hs') (SP X pins D) X.xe { t with heap := g3 } := fun {hs' l'} ch => by
      induction ch with
      | nil =>
        intro w
        refine wpAny_handleBy_nil ?_
        obtain ⟨_, _, _, o, us, T, oT, _, ho, _, hd, h1, _⟩ := id fl3
        unfold PySem.passOn
        refine wpAny_bind (wpAny_field ho hd h1 ?_)
        rw [if_neg (show ¬ ((Value.ref T == Value.none) = true) by simp)]
        have last : wpAny (model X.prog X.w) X.A (setFlight (.ref a) X.env.frame) (fun _ s4 => wpAny (model X.prog X.w) X.A (throw (.ref a) : Sem Flow) (SP X pins D) X.xe s4) X.xe { t with heap := g3 } := by
          rw [hfr]
          refine HandSPX.setFlight_upZ fl3 fun g4 hh4 up4 => wpAny_throw (tk _ _ ⟨a, G, sI, pins, τ, J, cl, d, rfl, IJ', nb, (up.trans up3).trans up4, .inr (.inr (hst.symm ▸ hh4)), na, os, ag, w⟩)
        first
          | exact wpAny_bind (wpAny_pure (wpAny_bind last))
          | exact wpAny_bind last
      | @cons x n i c ts b0 su np p' hds2 l2 hc hi hn hsu r ih =>
        intro w
        obtain ⟨b, b1, yes, no⟩ := w
        refine wpAny_handleBy_cons (codeAny_handlers_test ?_) (by intro q; cases q)
        have tst : ∀ {Q : Value → Shared → Prop} {E : Value → Shared → Prop}, Q c { t with heap := g3 } → wpAny (model X.prog X.w) (X.A.mark (some (.ref a))) (eval (.Name x np) X.env) Q E { t with heap := g3 } := fun {Q E} q => by
          obtain ⟨hg, hdb, hm | ⟨hm, hv, hnn⟩⟩ := hc
          · exact ld_glob (X := X.suite a ((a, o3) :: (X.pn ++ pins))) S3 hg hm q hdb
          · exact ld_blt (X := X.suite a ((a, o3) :: (X.pn ++ pins))) S3 hg hm hv q hnn hdb
        refine tst ((PySem.W.exm_one (M := model X.prog X.w) I3.kIn LT b1).here ?_)
        cases b with
        | false => exact ih (no rfl)
        | true =>
          refine codeAny_handlers_suite_as (HandSPX.lands_againZ fl3 fun g4 fl4 up4 => ?_)
          have I4 : Inv X pins τ J { t with heap := g4 } := IJ'.landed nb fl4.1 ((up.trans up3).trans up4) os ag
          obtain ⟨o4, us4, ho4, z4, f4⟩ := fl4.there
          refine store_ok (X := X.suite a ((a, o4) :: (X.pn ++ pins))) (v := .ref a) (I4.suite ho4 f4 na nl nf) nd hi (.inl hn) rfl (fun s5 I5 => ?_) (.inr hn)
          refine wpAny_mono ((hsu a o4 cl d (X.pn ++ pins) z4 ⟨_, f4⟩).run [] s5 _ J _ I5 (yes rfl a na)) (fun f s6 q => ?_) fun _ _ z => z.elim
          have done : ∀ {σ6 : St} {H6 : Hp} {Q : Shared → Prop}, Inv (X.suite a ((a, o4) :: (X.pn ++ pins))) [] σ6 H6 s6 → (∀ s7, Inv X pins (σ6.set i none) H6 s7 → Q s7) →
              wpAny (model X.prog X.w) X.A (do bindName X.env n .none; unbindBehindTheSuite X.env n p') (fun _ s7 => Q s7) X.xe s6 := fun {σ6 H6 Q} I6 hq => gone_ok (I6.unsuite ok) nd hi hn hq
          cases f with
          | next => exact let ⟨σ6, H6, I6, q6⟩ := q; done I6 fun s7 J7 => ⟨_, _, J7, q6⟩
          | brk => exact let ⟨σ6, H6, I6, q6⟩ := q; done I6 fun s7 J7 => ⟨_, _, J7, q6⟩
          | cont => exact let ⟨σ6, H6, I6, q6⟩ := q; done I6 fun s7 J7 => ⟨_, _, J7, q6⟩
          | ret u => exact let ⟨v6, σ6, H6, I6, r6, q6⟩ := q; done I6 fun s7 J7 => ⟨_, _, _, J7, r6, q6⟩
    exact go hh w
  · have q' := SP.untry ok q
    cases f with
    | next => exact wpAny_execs_nil q'
    | brk => exact q'
    | cont => exact q'
    | ret u => exact q'
end
/-! ### raise X() -/
theorem pmk_none {X : Cx} {C : Addr} {bmB : List Value} {Bn newId initId : String} {x : Str} {p pos : Pos} (F : ExcBaseFacts Bn newId initId bmB) (q : PySem.W.excIn X.K C bmB newId = true) (gC : X.mg x = some (.ref C)) (kC : PySem.W.keepIn X.K (.ref C) = true) (r : Raises X (.ref C)) (hg : Gl X x)
    (hdb : (x == ("__debug__" : Str)) = false) : PMk X (.Call (.Name x p) [] [] pos) (fun _ H Q => Q (.ref C) none H) := by
  intro pins s σ H Q I h
  refine wpAny_Call_Name_kw (ld_glob I hg gC (PySem.W.callWith_K0 I.kIn kC ?_) hdb)
  show wpAny _ _ (call (.ref C) []) _ _ _
  obtain ⟨bm, N, nm, qn, bs, hdct, sn, sub, ab, col, dd, k0, k1, k2, k3, k5, mN, hC, hN, hni, T⟩ := exc_obj I.kIn q
  exact wpAny_call_exc_subT F T hC hN hni (fun h' e hm => mk_of I hm r h (I.hok.gone hm.new)) (Nat.zero_le _)

/-! ### the text's exceptions -/
/-- class k is named x -/
structure ExcF (X : Cx) (cad : Nat → Option Addr) (k : Nat) (a : Addr) (x : Str) : Prop where
  ad : cad k = some a
  gl : Gl X x
  mg : X.mg x = some (.ref a)
  nd : (x == ("__debug__" : Str)) = false
section
variable {X : Cx} {cad : Nat → Option Addr} {W : WX} {pos : Pos}
theorem DS.rais {k : Nat} {ka : Addr} {x : Str} {bmB : List Value} {Bn newId initId : String} {p cp : Pos} (hc : X.calm = true) (tk : Takes X W) (E : ExcF X cad k ka x) (F : ExcBaseFacts Bn newId initId bmB) (q : PySem.W.excIn X.K ka bmB newId = true) (kC : PySem.W.keepIn X.K (.ref ka) = true) (r : Raises X (.ref ka)) :
    DS X cad W (.Raise (some (.Call (.Name x p) [] [] cp)) none pos) (fun ρ => .ex ⟨k, none⟩ ρ) :=
  ps_of (ps_raise hc tk (pmk_none F q E.mg kC r E.gl E.nd)) fun D σ H ⟨H₀, B, Z, ρ, h⟩ => h.2 _ _ σ H h.1 ⟨⟨ka, E.ad, rfl⟩, rfl, rfl⟩
def Kc.v : Kc → V
  | .none => .non
  | .bool b => .bl b
  | .int i => .int i
  | .str s => .str s
  | .tup _ => .non
/-- an item of a clause's list: the exception is at slot i (named n), of class k -/
inductive SuE (X : Cx) (cad : Nat → Option Addr) (i : Nat) (ka : Addr) : Expr → Kc → Prop where
  | none {j pos} : SuE X cad i ka (.Constant .none j pos) .none
  | bool {b j pos} : SuE X cad i ka (.Constant (.bool b) j pos) (.bool b)
  | int {z j pos} : SuE X cad i ka (.Constant (.int z) j pos) (.int z)
  | str {s j pos} : SuE X cad i ka (.Constant (.str s) j pos) (.str s)
  | isa {n y : Str} {m : Nat} {ma : Addr} {b : Bool} {p p2 p3 pos : Pos} (hi : X.N[i]? = some n) (hv : Vis X.env.scope n) (hd : (n == ("__debug__" : Str)) = false) (hcd : (n == ("__classdict__" : Str)) = false) (hb : Blt X "isinstance" (.builtin "isinstance")) (E : ExcF X cad m ma y) (C : ExcC X.K ka) (e : PySem.W.kitOne X.K (.ref ka) (.ref ma) = some b) :
      SuE X cad i ka (.Call (.Name "isinstance" p) [.Name n p2, .Name y p3] [] pos) (.bool b)
theorem SuE.pe {i : Nat} {ka : Addr} {e : Expr} {c : Kc} (h : SuE X cad i ka e c) {a : Addr} {oe : Obj} {pn : List (Addr × Obj)} (hz : Zc (.ref ka) Option.none oe) (hf : ∃ vs, oe.data = .fields vs) : PE (X.suite a ((a, oe) :: pn)) e (fun σ H Q => σ[i]? = some (some (.ref a)) ∧ Q c.v H) ∧ NoStar e := by
  cases h with
  | none => exact ⟨pe_of pe_non fun σ H Q q => q.2, fun _ _ => rfl⟩
  | bool => exact ⟨pe_of pe_bl fun σ H Q q => q.2, fun _ _ => rfl⟩
  | int => exact ⟨pe_of pe_int fun σ H Q q => q.2, fun _ _ => rfl⟩
  | str => exact ⟨pe_of pe_str fun σ H Q q => q.2, fun _ _ => rfl⟩
  | @isa n y m ma b p p2 p3 pos hi hv hd hcd hb E C e =>
    refine ⟨pe_of (pe_callB (X := X.suite a ((a, oe) :: pn)) (call_isE C hz hf) hb.gl hb.mg hb.bt (pa_cons (pe_var hi hv hd hcd) (pa_cons (pe_glob (v := .ref ma) E.gl E.mg rfl E.nd) pa_nil rfl) rfl) hb.nn hb.nd rfl rfl) fun σ H Q q => ?_, fun _ _ => rfl⟩
    exact ⟨.ref a, q.1, .ref ma, .ref ma, b, rfl, fun u r => r, e, q.2⟩
inductive SuEs (X : Cx) (cad : Nat → Option Addr) (i : Nat) (ka : Addr) : List Expr → List Kc → Prop where
  | nil : SuEs X cad i ka [] []
  | cons {e : Expr} {c : Kc} {es : List Expr} {cs : List Kc} : SuE X cad i ka e c → SuEs X cad i ka es cs → SuEs X cad i ka (e :: es) (c :: cs)
theorem SuEs.pa {i : Nat} {ka : Addr} {es : List Expr} {cs : List Kc} (h : SuEs X cad i ka es cs) {a : Addr} {oe : Obj} {pn : List (Addr × Obj)} (hz : Zc (.ref ka) Option.none oe) (hf : ∃ vs, oe.data = .fields vs) : PA (X.suite a ((a, oe) :: pn)) es (fun σ H Q => σ[i]? = some (some (.ref a)) ∧ Q (cs.map Kc.v) H) := by
  induction h with
  | nil => exact pa_of pa_nil fun σ H Q q => q.2
  | cons h _ ih =>
    obtain ⟨p, ns⟩ := h.pe (a := a) (pn := pn) hz hf
    exact pa_of (pa_cons p ih (ns _ _)) fun σ H Q q => ⟨q.1, q.1, q.2⟩
/-- constants that a list holds -/
def kcOk : Kc → Bool
  | .tup _ => false
  | _ => true
theorem Kc.rp {K : PySem.W.Frag} {O : Addr → Prop} {H : Hp} : ∀ {c : Kc}, kcOk c = true → Rp K O H c.v c.d
  | .none, _ => .non
  | .bool b, _ => .bl b
  | .int i, _ => .int i
  | .str s, _ => .str s
theorem Kc.rps {K : PySem.W.Frag} {O : Addr → Prop} {H : Hp} : ∀ {cs : List Kc}, cs.all kcOk = true → RpL K O H (cs.map Kc.v) (cs.map Kc.d)
  | [], _ => .nil
  | c :: cs, h => by
    simp only [List.all_cons, Bool.and_eq_true] at h
    exact .cons (Kc.rp h.1) (Kc.rps h.2)
/-- the clauses of a try, as the evaluator has them -/
inductive TryCl (X : Cx) (cad : Nat → Option Addr) : List ExceptHandler → List (Nat × Hr) → Prop where
  | nil : TryCl X cad [] []
  | cons {x n : Str} {i k : Nat} {ka : Addr} {es : List Expr} {cs : List Kc} {np p' p2 p3 : Pos} {hds : List ExceptHandler} {hs : List (Nat × Hr)} (E : ExcF X cad k ka x) (hi : X.N[i]? = some n) (hn : X.env.kindOf n = some .local) (su : SuEs X cad i ka es cs) (ok : cs.all kcOk = true) (hl : cs.length ≤ 1000) (r : TryCl X cad hds hs) :
      TryCl X cad (.ExceptHandler (some (.Name x np)) (some n) [.Return (some (.List es p2)) p3] p' :: hds) ((k, .lst cs) :: hs)
/-- a clause's suite, read -/
def suR (i : Nat) (ka : Addr) (cs : List Kc) (a : Addr) (cl : Value) (d : Option Addr) : TS := fun D σ H => cl = .ref ka ∧ d = none ∧ (∃ σ0 : St, σ = σ0.set i (some (.ref a))) ∧ ∀ p, H p = none → D.rt (.ref p) (upd H p (.lst (cs.map Kc.v)))
theorem TryCl.all {hds : List ExceptHandler} {hs : List (Nat × Hr)} (h : TryCl X cad hds hs) : ∃ l, Clauses X hds l ∧
    ∀ {D : Ends} {σ : St} {H : Hp} {c : Nat} {a : Addr}, (∀ k b, k ∈ hs.map (·.1) → cad k = some b → PySem.W.exmOne X.K (.ref a) (.ref b) = some (c == k)) → cad c = some a →
      (match hs.lookup c with
        | some (.lst cs) => ∀ p, H p = none → D.rt (.ref p) (upd H p (.lst (cs.map Kc.v)))
        | some .none => False
        | none => W (.ref a) none σ H) → wNames X.K W D l (.ref a) none σ H := by
  induction h with
  | nil => exact ⟨[], .nil, fun _ _ h => h⟩
  | @cons x n i k ka es cs np p' p2 p3 hds hs E hi hn su ok hl r ih =>
    obtain ⟨l, h1, h2⟩ := ih
    refine ⟨(.ref ka, i, suR i ka cs) :: l, .cons ⟨E.gl, E.nd, .inl E.mg⟩ hi hn (fun a oe cl d pn hz hf => ⟨fun pins s σ H D I h => ?_⟩) h1, fun {D σ H c a} hx ha h => ?_⟩
    · obtain ⟨rfl, rfl, ⟨σ0, rfl⟩, q⟩ := h
      have hlt : i < σ0.length := by
        have hl := I.len
        rw [List.length_set] at hl
        rw [hl]
        exact (List.getElem?_eq_some_iff.mp hi).1
      have s1 := st_set_self (v := V.ref a) hlt
      have ps := pss_one (ps_ret (pe_lst (su.pa (a := a) (pn := pn) hz hf) (pos := p2)) (pos := p3))
      exact ps.run pins s _ H D I ⟨s1, by rw [List.length_map]; exact small_line hl, q⟩
    · refine ⟨c == k, hx k ka (List.mem_cons_self ..) E.ad, fun e a' _ => ?_, fun e => ?_⟩
      · have e : c = k := by simpa using e
        subst e
        rw [List.lookup_cons, beq_self_eq_true] at h
        rw [E.ad] at ha; cases ha
        exact ⟨rfl, rfl, ⟨_, rfl⟩, h⟩
      · rw [List.lookup_cons, e] at h
        exact h2 (fun m b hm => hx m b (List.mem_cons_of_mem _ hm)) ha h
theorem lookup_mem {β : Type} : ∀ {hs : List (Nat × β)} {c : Nat} {r : β}, hs.lookup c = some r → (c, r) ∈ hs
  | [], _, _, h => by cases h
  | (k, x) :: hs, c, r, h => by
    rw [List.lookup_cons] at h
    by_cases e : c = k
    · subst e
      rw [beq_self_eq_true] at h
      cases h
      exact List.mem_cons_self ..
    · rw [beq_eq_false_iff_ne.mpr e] at h
      exact List.mem_cons_of_mem _ (lookup_mem h)
theorem DS.try {body : List Stmt} {h0 : ExceptHandler} {hds : List ExceptHandler} {hs : List (Nat × Hr)} {b : M Fl} (hst : X.stack = X.env :: X.outer) (hfr : X.env.frame = some X.env.locals) (nd : X.N.Nodup) (tk : Takes X W)
    (hb : ∀ (V : WX) (pn : List (Addr × Obj)) (xe : Value → Shared → Prop), Takes (X.tr pn xe) V → PassesOwn (model X.prog X.w) X.A X.env xe → DSs (X.tr pn xe) cad V body b)
    (hh : TryCl X cad (h0 :: hds) hs) (hok : hs.all (fun h => match h.2 with | .lst cs => cs.all kcOk | .none => false) = true) (hx : ∀ c k a b, cad c = some a → cad k = some b → PySem.W.exmOne X.K (.ref a) (.ref b) = some (c == k)) :
    DS X cad W (.Try body (h0 :: hds) [] [] pos) (tryM b hs) := by
  obtain ⟨l, h1, h2⟩ := hh.all (W := W)
  refine ps_of (ps_try_names (tb := fun V => sW X.K cad V b) hst hfr nd tk hb h1) fun D σ H ⟨H₀, B, Z, ρ, S, h⟩ => ?_
  refine ⟨H₀, B, Z, ρ, S, ?_⟩
  unfold tryM at h
  cases e : b ρ with
  | bad => rw [e] at h; exact h
  | ok k ρ1 => rw [e] at h; cases k <;> exact h
  | ex c ρ1 =>
    rw [e] at h
    dsimp only at h
    intro cl d σ' H' S' ⟨⟨ca, e0, e1⟩, e2, e3⟩
    subst e1 e3
    refine h2 (fun k b _ hk => hx c.cls k ca b e0 hk) e0 ?_
    · cases e4 : hs.lookup c.cls with
      | none => rw [e4] at h; exact h _ _ σ' H' S' ⟨⟨ca, e0, rfl⟩, e2, rfl⟩
      | some r =>
        rw [e4] at h
        have hr := List.all_eq_true.mp hok (c.cls, r) (lookup_mem e4)
        cases r with
        | none => cases hr
        | lst cs =>
          intro p hp
          have S2 := S'.same (same_new (o := .lst (cs.map Kc.v)) hp)
          refine h _ σ' _ S2 ⟨⟨p, _, rfl, upd_same, Kc.rps hr, S'.fresh hp, S'.fresh₀ hp⟩, fun a ea => ?_⟩
          cases ea
          exact S'.addF (same_new hp) hp ⟨_, upd_same⟩
end
end Gn

/-! Gn, part M: tests; lists given back. -/
namespace Gn
open PySem PySem.Spec L2
open PyProof.Rows hiding St

section
variable {X : Cx} {cad : Nat → Option Addr} {W : WX} {T : List Nat} {pos : Pos}
section
variable {γ β : Type} {K : PySem.W.Frag} {H₀ : Hp} {B : Nat → Addr → Prop} {Z : Addr → Prop} {ρ : Env} {σ : St} {H : Hp}
theorem tAt.ofO1 {o : Option Bool} {Q : Bool → Hp → Prop} (h : tAt K cad W T H₀ B Z ρ (M.ofO o) PB σ H Q) : ∃ k, o = some k ∧ Q k H := by
  cases o with
  | none => exact h.2.elim
  | some k => exact ⟨k, rfl, h.2 k H h.1 .refl rfl⟩
theorem tAt.retB {k : Bool} {Q : Bool → Hp → Prop} (h : tAt K cad W T H₀ B Z ρ (M.ret k) PB σ H Q) : Q k H := h.2 k H h.1 .refl rfl
end
/-- an expression's value as a test -/
def vT (f : M Rv) : M Bool := f.bind fun x => (peekR x).bind fun d => M.ofO (truD d)
theorem MOk.vT {f : M Rv} (h : MOk T f) : MOk T (vT f) := .bind h fun _ => .bind .peek fun _ => .ofO
theorem DT.val {e : Expr} {f : M Rv} (hp : ∀ whole, isTrue e X.env whole = (do let v ← whole; standAt e.pos; holding [v] (truthy v))) (nb : ∀ op es p, e ≠ .BoolOp op es p) (he : DE X cad W T e f) : DT X cad W T e (vT f) := by
  refine ⟨.vT he.1, pt_of (pt_truth he.2 hp) fun σ H Q ⟨H₀, B, Z, ρ, h⟩ => ?_, fun op es p e => absurd e (nb op es p)⟩
  refine h.to he.1 fun x ρ1 v H1 le1 ev1 p1 h1 => ?_
  obtain ⟨d, _, q1, h2⟩ := h1.peek p1.1
  obtain ⟨k, ek, q⟩ := h2.ofO1
  exact ⟨k, TruV.of q1 ek, q⟩
theorem vT_bool {z : Bool} : (peekR (.v (.val (.bool z)))).bind (fun d => M.ofO (truD d)) = M.ret z := rfl
theorem DT.cmp {a b : Expr} {f g : M Rv} {o : COp} (hu : X.A.units + 64 < cLine) (hm : behindInMarks (copOf o) b = false) (ha : DE X cad W T a f) (hb : DE X cad W T b g) :
    DT X cad W T (.Compare a [copOf o] [b] pos) (vT (f.bind fun x => g.bind fun y => (peekR x).bind fun d => (peekR y).bind fun e => (M.ofO (cmpD o d e)).bind fun z => M.ret (.v (.val (.bool z))))) := by
  refine ⟨.vT (DE.cmp hu hm ha hb (pos := pos)).1, pt_of (pt_cmpR (op_cmpD o hu) ha.2 hb.2 hm) fun σ H Q ⟨H₀, B, Z, ρ, h⟩ => ?_, fun _ _ _ e => nomatch e⟩
  unfold vT at h
  simp only [M.assoc, M.ret_bind, vT_bool] at h
  refine h.to ha.1 fun x ρ1 v H1 le1 ev1 p1 h1 => ?_
  refine h1.to hb.1 fun y ρ2 w H2 le2 ev2 p2 h2 => ?_
  obtain ⟨d, _, q1, h3⟩ := h2.peek (p1.1.step le2 ev2)
  obtain ⟨e, _, q2, h4⟩ := h3.peek p2.1
  obtain ⟨z, ez, h5⟩ := h4.ofO
  exact ⟨_, d, e, z, q1, q2, ez, z, rfl, h5.retB⟩
theorem DT.cmp2 {a b c : Expr} {f g k : M Rv} {o1 o2 : COp} (hu : X.A.units + 64 < cLine) (hm : lastMarks [copOf o1, copOf o2] [b, c] = false) (ha : DE X cad W T a f) (hb : DE X cad W T b g) (hc : DE X cad W T c k) :
    DT X cad W T (.Compare a [copOf o1, copOf o2] [b, c] pos) (vT (f.bind fun x => g.bind fun y => (freeze y).bind fun e => (peekR x).bind fun d => (M.ofO (cmpD o1 d e)).bind fun z =>
      if z then k.bind fun w => (peekR w).bind fun f => (M.ofO (cmpD o2 e f)).bind fun z => M.ret (.v (.val (.bool z))) else M.ret (.v (.val (.bool false))))) := by
  refine ⟨.vT (DE.cmp2 hu hm ha hb hc (pos := pos)).1, pt_of (pt_chain (op_cmpD o1 hu) (op_cmpD o2 hu) ha.2 hb.2 hc.2 hm) fun σ H Q ⟨H₀, B, Z, ρ, h⟩ => ?_, fun _ _ _ e => nomatch e⟩
  unfold vT at h
  simp only [M.assoc] at h
  refine h.to ha.1 fun x ρ1 v H1 le1 ev1 p1 h1 => ?_
  refine h1.to hb.1 fun y ρ2 w H2 le2 ev2 p2 h2 => ?_
  obtain ⟨e, ρ3, le3, q2, h3⟩ := h2.freeze p2.1
  obtain ⟨d, _, q1, h4⟩ := h3.peek ((p1.1.step le2 ev2).step (le3.mono fun _ z => absurd z List.not_mem_nil) (Ev.refl (T := T)))
  obtain ⟨z, ez, h5⟩ := h4.ofO
  refine ⟨_, d, e, z, q1, q2.pk, ez, z, rfl, ?_⟩
  cases z with
  | false => exact ⟨false, rfl, h5.retB⟩
  | true =>
    rw [if_pos rfl] at h5 ⊢
    simp only [M.assoc, M.ret_bind, vT_bool] at h5
    refine h5.to hc.1 fun u ρ4 r H4 le4 ev4 p4 h6 => ?_
    obtain ⟨d', _, q4, h7⟩ := h6.peek p4.1
    obtain ⟨z', ez', h8⟩ := h7.ofO
    exact ⟨_, e, d', z', (q2.step le4 ev4).pk, q4, ez', z', rfl, h8.retB⟩
theorem DT.not {a : Expr} {f : M Bool} (ha : DT X cad W T a f) : DT X cad W T (.UnaryOp .Not a pos) (f.bind fun k => M.ret (!k)) := by
  refine ⟨.bind ha.1 fun _ => .ret, pt_of (pt_not ha.2.1) fun σ H Q ⟨H₀, B, Z, ρ, h⟩ => ?_, fun _ _ _ e => nomatch e⟩
  refine h.to ha.1 fun k ρ1 v H1 le1 ev1 p1 h1 => ?_
  have p1 : v = k := p1
  subst p1
  exact h1.retB
/-- the rest of an and, an or -/
def DW (X : Cx) (cad : Nat → Option Addr) (W : WX) (T : List Nat) (e : Expr) (f : M Bool) : Prop := MOk T f ∧ PW X e (tW X.K cad W T f PB)
theorem DW.one {op : BoolOp} {a : Expr} {f : M Bool} (ha : DT X cad W T a f) : DW X cad W T (.BoolOp op [a] pos) f := by
  cases op with
  | And => exact ⟨ha.1, pw_and1 ha.2.1⟩
  | Or => exact ⟨ha.1, pw_or1 ha.2.1⟩
theorem DW.dt {op : BoolOp} {es : List Expr} {f : M Bool} (h : DW X cad W T (.BoolOp op es pos) f) : DT X cad W T (.BoolOp op es pos) f := ⟨h.1, h.2.pt, fun _ _ _ e => by cases e; exact h.2⟩
theorem DT.dw {op : BoolOp} {es : List Expr} {f : M Bool} (h : DT X cad W T (.BoolOp op es pos) f) : DW X cad W T (.BoolOp op es pos) f := ⟨h.1, h.2.2 _ _ _ rfl⟩
theorem DW.and {a b : Expr} {rest : List Expr} {f g : M Bool} (ha : DT X cad W T a f) (hb : DW X cad W T (.BoolOp .And (b :: rest) pos) g) : DW X cad W T (.BoolOp .And (a :: b :: rest) pos) (f.bind fun k => if k then g else M.ret false) := by
  refine ⟨.bind ha.1 fun k => .ite hb.1 .ret, pw_of (pw_and ha.2.1 hb.2) fun σ H Q ⟨H₀, B, Z, ρ, h⟩ => ?_⟩
  refine h.to ha.1 fun k ρ1 v H1 le1 ev1 p1 h1 => ?_
  have p1 : v = k := p1
  subst p1
  cases v with
  | true => exact ⟨_, _, _, _, h1⟩
  | false => exact h1.retB
theorem DW.or {a b : Expr} {rest : List Expr} {f g : M Bool} (ha : DT X cad W T a f) (hb : DW X cad W T (.BoolOp .Or (b :: rest) pos) g) : DW X cad W T (.BoolOp .Or (a :: b :: rest) pos) (f.bind fun k => if k then M.ret true else g) := by
  refine ⟨.bind ha.1 fun k => .ite .ret hb.1, pw_of (pw_or ha.2.1 hb.2) fun σ H Q ⟨H₀, B, Z, ρ, h⟩ => ?_⟩
  refine h.to ha.1 fun k ρ1 v H1 le1 ev1 p1 h1 => ?_
  have p1 : v = k := p1
  subst p1
  cases v with
  | true => exact h1.retB
  | false => exact ⟨_, _, _, _, h1⟩
/-! ### sorted(set(t)), t a tuple of ints -/
theorem cr_setT (hc : X.calm = true) : CallR X (.type "set") (fun xs H Q => ∃ (p : Addr) (ns : List Int), xs = [.ref p] ∧ SqT X.K H p (ns.map V.int) ∧ ns.length < 60 ∧ ∀ a c, H a = none → c ≤ ns.length → Q (.ref a) (upd H a (SetO X.w a (fun j => decide (j ∈ ns)) c))) := by
  intro pins s σ H xs us Q I r h
  obtain ⟨p, ns, rfl, hq, hl, q⟩ := h
  rw [Vals.ref1 r]
  obtain ⟨its, rv, pt, hz⟩ := I.tuple hq
  refine call_set_tupI ns (I.ok.hd hc) (show s.heap.IsTuple p its.toArray from pt) (ints_of_vals rv) (by unfold scanBound; omega) fun h' tk c R hcn k => ?_
  exact ⟨.ref s.heap.objs.size, _, I.laid (t' := tk) k (Nat.le_refl _) (setO_new R), rfl, q _ c (I.hok.fresh (Nat.le_refl _)) hcn⟩
theorem insI_mem (x : Int) : ∀ (l : List Int) (k : Int), k ∈ insI x l ↔ k = x ∨ k ∈ l
  | [], k => by simp [insI]
  | y :: r, k => by
    unfold insI
    split
    · simp
    · split
      · rename_i h; subst h; simp
      · simp only [List.mem_cons, insI_mem x r k]
        constructor
        · rintro (h | h | h) <;> simp [h]
        · rintro (h | h | h) <;> simp [h]
theorem insI_lt {x : Int} : ∀ {l : List Int}, l.Pairwise (· < ·) → (insI x l).Pairwise (· < ·)
  | [], _ => by simp [insI]
  | y :: r, h => by
    obtain ⟨h1, h2⟩ := List.pairwise_cons.mp h
    unfold insI
    split
    · rename_i hxy
      refine List.pairwise_cons.mpr ⟨fun z hz => ?_, h⟩
      rcases List.mem_cons.mp hz with e | hz
      · omega
      · have := h1 z hz; omega
    · split
      · exact h
      · refine List.pairwise_cons.mpr ⟨fun z hz => ?_, insI_lt h2⟩
        rcases (insI_mem x r z).mp hz with e | hz
        · omega
        · exact h1 z hz
theorem setI_mem (l : List Int) (k : Int) : k ∈ setI l ↔ k ∈ l := by
  unfold setI
  induction l with
  | nil => simp
  | cons x r ih => rw [List.foldr_cons, insI_mem, ih, List.mem_cons]
theorem setI_lt (l : List Int) : (setI l).Pairwise (· < ·) := by
  unfold setI
  induction l with
  | nil => exact List.Pairwise.nil
  | cons x r ih => exact insI_lt ih
theorem lt_uniq : ∀ {l m : List Int}, l.Pairwise (· < ·) → m.Pairwise (· < ·) → (∀ k, k ∈ l ↔ k ∈ m) → l = m
  | [], [], _, _, _ => rfl
  | [], y :: m, _, _, h => absurd ((h y).mpr (List.mem_cons_self ..)) List.not_mem_nil
  | x :: l, [], _, _, h => absurd ((h x).mp (List.mem_cons_self ..)) List.not_mem_nil
  | x :: l, y :: m, h1, h2, h => by
    obtain ⟨a1, a2⟩ := List.pairwise_cons.mp h1
    obtain ⟨b1, b2⟩ := List.pairwise_cons.mp h2
    have e : x = y := by
      rcases List.mem_cons.mp ((h x).mp (List.mem_cons_self ..)) with e | e
      · exact e
      · rcases List.mem_cons.mp ((h y).mpr (List.mem_cons_self ..)) with e' | e'
        · exact e'.symm
        · have := a1 y e'
          have := b1 x e
          omega
    subst e
    rw [lt_uniq a2 b2 fun k => ?_]
    have q := h k
    simp only [List.mem_cons] at q
    constructor
    · intro hk
      rcases q.mp (.inr hk) with e | e
      · have := a1 k hk; omega
      · exact e
    · intro hk
      rcases q.mpr (.inr hk) with e | e
      · have := b1 k hk; omega
      · exact e
theorem ints_rel {K : PySem.W.Frag} {O : Addr → Prop} {H : Hp} : ∀ {vs : List V} {ds : List PD} {is : List Int}, RpL K O H vs ds → intsD ds = some is → vs = is.map V.int
  | _, _, _, .nil, e => by cases e; rfl
  | _, .int i :: ds, _, .cons r t, e => by
    cases r
    simp only [intsD] at e
    cases e2 : intsD ds with
    | none => rw [e2] at e; cases e
    | some is => rw [e2] at e; cases e; rw [ints_rel t e2]; rfl
  | _, .none :: ds, _, .cons r t, e => by cases e
  | _, .bool _ :: ds, _, .cons r t, e => by cases e
  | _, .str _ :: ds, _, .cons r t, e => by cases e
  | _, .list _ :: ds, _, .cons r t, e => by cases e
  | _, .tuple _ :: ds, _, .cons r t, e => by cases e
  | _, .dict _ :: ds, _, .cons r t, e => by cases e
theorem rel_ints {K : PySem.W.Frag} {O : Addr → Prop} {H : Hp} : ∀ is : List Int, RpL K O H (is.map V.int) (is.map PyData.int)
  | [] => .nil
  | i :: is => .cons (.int i) (rel_ints is)
theorem biD_set {ds : List PD} {z : Vl} (h : biD .sortedSet ds = some z) : ∃ xs is, ds = [.tuple xs] ∧ intsD xs = some is ∧ is.length < 60 ∧ z = .own ((setI is).map .int) false := by
  match ds, h with
  | [.tuple xs], h =>
    simp only [biD, setD] at h
    cases e : intsD xs with
    | none => rw [e] at h; cases h
    | some is =>
      rw [e] at h
      dsimp only at h
      split at h
      · rename_i hz
        cases h
        exact ⟨xs, is, rfl, e, of_decide_eq_true hz, rfl⟩
      · cases h
  | [], h => cases h
  | [.none], h => cases h
  | [.bool _], h => cases h
  | [.int _], h => cases h
  | [.str _], h => cases h
  | [.list _], h => cases h
  | [.dict _], h => cases h
  | _ :: _ :: _, h => simp [biD] at h
theorem DE.sortedSet {e : Expr} {g : M (List Rv)} {p p2 q pos : Pos} (hc : X.calm = true) (hb : Blt X "sorted" (.builtin "sorted")) (hb2 : Blt X "set" (.type "set")) (ns : NoStar e)
    (hs : DA X cad W T [e] g (fun H₀ _ Z ρ σ H vs xs => RVs X.K H₀ (OO Z ρ σ) ρ σ H vs xs)) :
    DE X cad W T (.Call (.Name "sorted" p) [.Call (.Name "set" p2) [e] [] q] [] pos) (g.bind fun xs => (peekAll xs).bind fun ds => (M.ofO (biD .sortedSet ds)).bind fun z => M.ret (.v z)) := by
  have p1 := pe_callTy (cr_setT hc) hb2.gl hb2.mg hb2.bt hs.2 hb2.nn hb2.nd (ns _ _) rfl (p := p2) (pos := q)
  have pe := pe_callB (cr_sortedSet hc) hb.gl hb.mg hb.bt (pa_cons p1 pa_nil rfl) hb.nn hb.nd rfl rfl (p := p) (pos := pos)
  refine ⟨.bind hs.1 fun _ => .bind .peekAll fun _ => .bind .ofO fun _ => .ret, pe_of pe fun σ H Q ⟨H₀, B, Z, ρ, h⟩ => ?_⟩
  refine h.to hs.1 fun xs ρ1 vs H1 le1 ev1 p1 h1 => ?_
  obtain ⟨ds, q1, h2⟩ := h1.peekAll p1
  obtain ⟨z, ez, h3⟩ := h2.ofO
  obtain ⟨xs', is, rfl, e1, e2, rfl⟩ := biD_set ez
  obtain ⟨x, rfl, px⟩ := q1.one
  obtain ⟨a, us, rfl, t1, t2⟩ := Rp.tup_inv px
  have eu := ints_rel t2 e1
  subst eu
  refine ⟨a, is, rfl, t1.sq, e2, fun p c hp hcn => ?_⟩
  refine ⟨p, _, c, rfl, upd_same, by omega, fun ns' p' n1 n2 n3 hp' => ?_⟩
  have en : ns' = setI is := lt_uniq n1 (setI_lt is) fun k => by
    rw [n2 k, decide_eq_true_eq, setI_mem]
  subst en
  refine h3.ans _ _ ((same_new hp).trans (same_new hp')) ⟨p', _, rfl, ?_, upd_same, rel_ints _⟩
  by_cases z : p' = p
  · subst z; exact hp
  · rw [upd_ne z] at hp'; exact hp'
/-! ### t[::-1] -/
theorem adjust_rev (n : Nat) : Builtin.Slice.sliceAdjust none none (-1) (n : Int) = ((n : Int) - 1, -1) := by
  unfold Builtin.Slice.sliceAdjust
  simp
theorem places_rev (n : Nat) : Builtin.Slice.slicePlaces ((n : Int) - 1) (-1) (-1) = n := by
  unfold Builtin.Slice.slicePlaces
  have h1 : ¬ ((-1 : Int) > 0) := by decide
  rw [if_neg h1]
  by_cases h : (n : Int) - 1 > -1
  · rw [if_pos h, show (-(-1) : Int) = 1 by decide, Int.ediv_one]
    omega
  · rw [if_neg h]
    omega
theorem pick_rev (xs : Array Value) : ((List.range xs.size).filterMap fun (m : Nat) => xs[(((xs.size : Int) - 1) + (m : Int) * (-1)).toNat]?).toArray = xs.toList.reverse.toArray := by
  have e : ((List.range xs.size).filterMap fun (m : Nat) => xs[(((xs.size : Int) - 1) + (m : Int) * (-1)).toNat]?) = ((List.range xs.size).map fun k => xs.size - 1 - k).filterMap (xs[·]?) := by
    rw [List.filterMap_map]
    have gen : ∀ l : List Nat, (∀ m ∈ l, m < xs.size) → (l.filterMap fun (m : Nat) => xs[(((xs.size : Int) - 1) + (m : Int) * (-1)).toNat]?) = l.filterMap ((xs[·]?) ∘ fun k => xs.size - 1 - k) := fun l => by
      induction l with
      | nil => intro _; rfl
      | cons m l ih =>
        intro h
        have h0 := h m (List.mem_cons_self ..)
        have e0 : (((xs.size : Int) - 1) + (m : Int) * (-1)).toNat = xs.size - 1 - m := by omega
        rw [List.filterMap_cons, List.filterMap_cons, ih fun k hk => h k (List.mem_cons_of_mem _ hk), e0]
        rfl
    exact gen _ fun m hm => List.mem_range.mp hm
  rw [e, PySem.W.krv_range, List.filterMap_reverse, PySem.W.krv_all]
section
variable {prog : Program} {w : World} {A : Around} {E : Value → Shared → Prop} {s : Shared}
theorem applied_rev {sl : Addr} {vl vu vs : Value} {n : Nat} {Q : Int × Int × Nat → Shared → Prop} (hs : s.heap.IsSliceOf sl vl vu vs) (pl : IsPart vl none) (pu : IsPart vu none) (ps : IsPart vs (some (-1)))
    (h : Q ((n : Int) - 1, -1, n) s) : wpAny (model prog w) A (Builtin.Slice.sliceApplied (.ref sl) (pure (n : Int))) Q E s := by
  obtain ⟨os, hos, hcs, hds⟩ := id hs
  unfold Builtin.Slice.sliceApplied Builtin.Slice.sliceFields
  refine wpAny_bind (wpAny_bind (wpAny_field hos hds (x := vl) rfl (wpAny_bind (wpAny_field hos hds (x := vu) rfl (wpAny_bind (wpAny_field hos hds (x := vs) rfl (wpAny_pure ?_)))))))
  refine wpAny_bind (HT.slicePart_ ps ?_)
  show wpAny _ _ (if ((-1 : Int) == 0) = true then _ else _) _ _ s
  rw [if_neg (by decide)]
  refine wpAny_bind (HT.slicePart_ pl (wpAny_bind (HT.slicePart_ pu (wpAny_bind (wpAny_pure ?_)))))
  show wpAny _ _ (match Builtin.Slice.sliceAdjust none none (-1) (n : Int) with | (lo, hi) => pure (lo, (-1 : Int), Builtin.Slice.slicePlaces lo hi (-1))) _ _ s
  rw [adjust_rev n]
  show wpAny _ _ (pure ((n : Int) - 1, (-1 : Int), Builtin.Slice.slicePlaces ((n : Int) - 1) (-1) (-1))) _ _ s
  rw [places_rev]
  exact wpAny_pure h
theorem getItem_rev {t sl : Addr} {items : Array Value} {vl vu vs : Value} {Q : Value → Shared → Prop} (ht : IsTup s.heap t items) (hs : s.heap.IsSliceOf sl vl vu vs) (pl : IsPart vl none) (pu : IsPart vu none) (ps : IsPart vs (some (-1)))
    (h : Q (.ref s.heap.objs.size) { s with heap := s.heap.push { cls := .type "tuple", data := .seq items.toList.reverse.toArray } }) (hsz : items.size ≤ sizeLine) : wpAny (model prog w) A (getItem (.ref t) (.ref sl)) Q E s := by
  have fits : sizeOk (.seq items.toList.reverse.toArray) := by
    show items.toList.reverse.toArray.size ≤ sizeLine
    rw [List.size_toArray, List.length_reverse, Array.length_toList]
    exact hsz
  obtain ⟨os, hos, hcs, hds⟩ := id hs
  have hTs : s.TypeIs (.ref sl) "slice" := ⟨os, hos, hcs⟩
  unfold getItem
  try with_reducible refine wpAny_holding ?_
  first | refine wpAny_bind (wpAny_pure ?_) | skip
  refine wpAny_bind (wpAny_sequenceKey ht.typeIs (by decide) ?_)
  refine wpAny_bind (wpAny_callSpecial?_slot (name := Str.ofString "__getitem__") ht.typeIs PyProof.Rows.slot_tuple_getitem (wpAny_call_entry PyProof.Rows.slot_tuple_getitem ht.typeIs entry_tuple_getitem ?_ (args_tuple_getitem _ _)))
  show wpAny _ _ (Builtin.Tuple.tupleItemsOf (.ref t) >>= _) _ _ s
  refine wpAny_bind (tupleItemsOf_ ht (wpAny_bind (wpAny_typeOf hTs ?_)))
  rw [if_pos (by decide)]
  refine wpAny_bind (applied_rev hs pl pu ps ?_)
  show wpAny _ _ (if ((((items.size : Int) - 1) == 0 && (-1 : Int) == 1 && items.size == items.size) = true) then _ else _) _ _ s
  rw [if_neg (by rw [show ((-1 : Int) == 1) = false by decide, Bool.and_false, Bool.false_and]; exact Bool.false_ne_true), pick_rev]
  first
    | exact wpAny_bind (m := Builtin.Tuple.tupleExact _) (wpAny_newObj_type (wpAny_pure ⟨_, rfl, wpAny_pure h⟩) fits)
    | exact wpAny_bind (m := Builtin.Tuple.tupleExact _) (wpAny_newObj_type (wpAny_bind (wpAny_pure (wpAny_pure ⟨_, rfl, wpAny_pure h⟩))) fits)
    | exact wpAny_bind (wpAny_bind (m := Builtin.Tuple.tupleExact _) (wpAny_newObj_type (wpAny_pure (wpAny_pure ⟨_, rfl, wpAny_pure h⟩)) fits))
    | exact wpAny_bind (wpAny_bind (m := Builtin.Tuple.tupleExact _) (wpAny_newObj_type (wpAny_pure ⟨_, rfl, wpAny_pure h⟩) fits))
end
def tRev (K : PySem.W.Frag) (te : TE) : TE := fun σ H Q => te σ H fun x H1 => ∃ a xs, x = .ref a ∧ ((SqL K H1 a xs ∧ ∀ p, H1 p = none → Q (.ref p) (upd H1 p (.lst xs.reverse))) ∨ (SqT K H1 a xs ∧ ∀ p, H1 p = none → Q (.ref p) (upd H1 p (.tup xs.reverse))))
theorem pe_rev {e : Expr} {te : TE} {k : Nat} {p1 p2 p3 : Pos} (he : PE X e te) : PE X (.Subscript e (.Slice none none (some (.UnaryOp .USub (.Constant (.int 1) k p1) p2)) p3) pos) (tRev X.K te) := by
  refine ⟨fun pins s σ H Q I h => Subscript_ (thn (he.run pins s σ H _ I h) fun v s1 ⟨x, H1, I1, r1, a, xs, ex, q⟩ => ?_)⟩
  subst ex
  cases r1
  have hst : PO X (some (.UnaryOp .USub (.Constant (.int 1) k p1) p2)) (tPart (tUn (rU fun i => .int (-i)) (tC (.int 1)))) := po_some (pe_un un_neg pe_int)
  refine wpAny_Slice (thn (po_none.run pins s1 σ H1 (fun o H2 => o = none ∧ H2 = H1) I1 ⟨rfl, rfl⟩) fun vl s2 ⟨l, H2, I2, pl, el, e2⟩ => ?_)
  subst el e2
  refine thn (po_none.run pins s2 σ H2 (fun o H3 => o = none ∧ H3 = H2) I2 ⟨rfl, rfl⟩) fun vu s3 ⟨u, H3, I3, pu, eu, e3⟩ => ?_
  subst eu e3
  refine thn (hst.run pins s3 σ H3 (fun o H4 => o = some (-1) ∧ H4 = H3) I3 ⟨1, rfl, -1, rfl, rfl, rfl⟩) fun vs s4 ⟨o, H4, I4, ps, eo, e4⟩ => ?_
  subst eo e4
  have I5 : Inv X pins σ H4 { s4 with heap := s4.heap.push { cls := .type "slice", data := .fields #[vl, vu, vs] } } := I4.kept (t' := s4.toks) fun b ob q => Heap.get?_push_of_some _ q
  show wpAny (model X.prog X.w) X.A (subscriptTail e (.Slice none none (some (.UnaryOp .USub (.Constant (.int 1) k p1) p2)) p3) (.ref a) (.ref s4.heap.objs.size)) (EP X pins σ Q) X.xe { s4 with heap := s4.heap.push { cls := .type "slice", data := .fields #[vl, vu, vs] } }
  rcases q with ⟨hx, q⟩ | ⟨hx, q⟩
  · obtain ⟨its, r, ht, hz⟩ := I5.list hx
    have hlen := r.length
    refine tail_any (ops := [.ref a, .ref s4.heap.objs.size]) ht.isList.typeIs (PySem.slot_list_getitem.lookup) ?_ (by with_unfolding_all rfl)
    refine wpAny_getItem_list_slice ht.isList (Heap.IsSliceOf.new _ vl vu vs) pl pu ps (by decide) ?_ (by rw [List.size_toArray]; omega)
    rw [PySem.W.krv_pick]
    exact ⟨.ref _, _, I5.laid (t' := s4.toks) (o := .lst xs.reverse) (fun b ob q => Heap.get?_push_of_some _ q) (Nat.le_refl _) ⟨by rw [List.length_reverse]; exact hz, _, 0, r.reverse, Heap.get?_push_size _ rfl⟩, rfl, q _ (I5.hok.fresh (Nat.le_refl _))⟩
  · obtain ⟨its, r, ht, hz⟩ := I5.tuple hx
    have hlen := r.length
    refine tail_any (ops := [.ref a, .ref s4.heap.objs.size]) ht.typeIs (PyProof.Rows.slot_tuple_getitem.lookup) ?_ (by with_unfolding_all rfl)
    refine getItem_rev ht (Heap.IsSliceOf.new _ vl vu vs) pl pu ps ?_ (by rw [List.size_toArray]; omega)
    exact ⟨.ref _, _, I5.laid (t' := s4.toks) (o := .tup xs.reverse) (fun b ob q => Heap.get?_push_of_some _ q) (Nat.le_refl _) ⟨by rw [List.length_reverse]; exact hz, _, r.reverse, IsTup.new _ _⟩, rfl, q _ (I5.hok.fresh (Nat.le_refl _))⟩
theorem DE.rev {a : Expr} {f : M Rv} {k : Nat} {p1 p2 p3 : Pos} (ha : DE X cad W T a f) :
    DE X cad W T (.Subscript a (.Slice none none (some (.UnaryOp .USub (.Constant (.int 1) k p1) p2)) p3) pos) (f.bind fun x => (peekR x).bind fun d => (M.ofO (revD d)).bind fun z => M.ret (.v z)) := by
  refine ⟨.bind ha.1 fun _ => .bind .peek fun _ => .bind .ofO fun _ => .ret, pe_of (pe_rev ha.2) fun σ H Q ⟨H₀, B, Z, ρ, h⟩ => ?_⟩
  refine h.to ha.1 fun x ρ1 v H1 le1 ev1 p1 h1 => ?_
  obtain ⟨d, _, q1, h2⟩ := h1.peek p1.1
  obtain ⟨z, ez, h3⟩ := h2.ofO
  cases d with
  | list xs =>
    cases ez
    obtain ⟨p, vs, rfl, k1, k2⟩ := q1
    exact ⟨p, vs, rfl, .inl ⟨.inl (.inl k1), h3.ans.lst k2.reverse⟩⟩
  | tuple xs =>
    cases ez
    obtain ⟨p, vs, rfl, k1, k2⟩ := Rp.tup_inv q1
    exact ⟨p, vs, rfl, .inr ⟨k1.sq, h3.ans.tup h3.tk k2.reverse⟩⟩
  | _ => cases ez
/-! ### lists given back -/
section
variable {K : PySem.W.Frag} {H₀ : Hp} {B : Nat → Addr → Prop} {Z : Addr → Prop} {ρ ρ' : Env} {σ : St} {H H' : Hp}
theorem thawE_get : ∀ {is : List Nat}, ρ'.length = ρ.length → (thawE ρ ρ' is).length = ρ.length ∧ ∀ j, getS (thawE ρ ρ' is) j = getS ρ' j ∨ ∃ xs b, getS ρ j = some (.own xs b) ∧ getS (thawE ρ ρ' is) j = some (.own xs b)
  | [], h => ⟨h, fun _ => .inl rfl⟩
  | i :: is, h => by
    obtain ⟨l, q⟩ := thawE_get (is := is) h
    simp only [thawE]
    split
    · rename_i xs b e
      refine ⟨by rw [List.length_set]; exact l, fun j => ?_⟩
      by_cases hj : i = j
      · subst hj
        exact .inr ⟨xs, b, e, getS_set_self (by rw [l]; exact getS_lt e)⟩
      · rw [getS_set_ne hj]; exact q j
    · exact ⟨l, q⟩
/-- each slot is as it was, or its list is data from now on -/
theorem thaw_two {is : List Nat} (le : EnvLe [] ρ ρ') : (thawE ρ ρ' is).length = ρ.length ∧ ∀ j, getS (thawE ρ ρ' is) j = getS ρ j ∨ ∃ xs b, getS ρ j = some (.own xs b) ∧ getS (thawE ρ ρ' is) j = some (.val (.list xs)) := by
  obtain ⟨l, q⟩ := thawE_get (is := is) le.1
  refine ⟨l, fun j => ?_⟩
  rcases q j with e | ⟨xs, b, e1, e2⟩
  · rw [e]
    have s := le.2 j
    cases e1 : getS ρ j with
    | none => rw [e1] at s; exact .inl s
    | some x =>
      rw [e1] at s
      cases x with
      | val d => exact .inl s
      | own xs b =>
        obtain ⟨xs', h1, h2⟩ := s
        have := h1 List.not_mem_nil
        subst this
        rcases h2 with h2 | h2 | ⟨_, h2⟩
        · exact .inl h2
        · exact .inr ⟨xs', b, rfl, h2⟩
        · exact absurd h2 List.not_mem_nil
      | dic kvs b =>
        obtain ⟨xs', h1, h2⟩ := s
        have := h1 List.not_mem_nil
        subst this
        rcases h2 with h2 | ⟨_, h2⟩
        · exact .inl h2
        · exact absurd h2 List.not_mem_nil
      | lok xs =>
        rcases s with h2 | ⟨_, h2⟩
        · exact .inl h2
        · exact absurd h2 List.not_mem_nil
  · exact .inl (by rw [e1, e2])
theorem StOk.thaw (S : StOk K H₀ B Z ρ σ H) {is : List Nat} (le : EnvLe [] ρ ρ') (ev : Ev [] ρ σ H H') : StOk K H₀ B Z (thawE ρ ρ' is) σ H' := by
  obtain ⟨l, two⟩ := thaw_two (is := is) le
  have kp : ∀ a o, H a = some o → H' a = some o := fun a o e => ev a o e fun ⟨i, hi, _⟩ => absurd hi List.not_mem_nil
  have own : ∀ {j : Nat} {y : Vl}, getS (thawE ρ ρ' is) j = some y → isOwn y = true → getS ρ j = some y := fun {j y} e ho => by
    rcases two j with q | ⟨xs, b, _, q⟩
    · rw [← q]; exact e
    · rw [q] at e; cases e; cases ho
  have sub : ∀ a, OO Z (thawE ρ ρ' is) σ a → OO Z ρ σ a := fun a z => z.imp id fun ⟨j, y, h1, h2, h3⟩ => ⟨j, y, own h1 h2, h2, h3⟩
  have m : ∀ a o, Tr (OO Z ρ σ) H a o → Tr (OO Z (thawE ρ ρ' is) σ) H' a o := fun a o q => ⟨kp a o q.1, fun z => q.2 (sub a z)⟩
  refine ⟨l.trans S.len, fun a o e n => kp a o (S.keep a o e n), S.bt₀, fun i a hb => let ⟨o, e⟩ := S.btr i a hb; ⟨o, kp a o e⟩, fun a z => ⟨let ⟨o, e⟩ := (S.zok a z).1; ⟨o, kp a o e⟩, (S.zok a z).2⟩, fun j y e => ?_, fun j y a e ho es => S.own j y a (own e ho) ho es, fun i j x y a e1 o1 e2 o2 s1 s2 => S.inj i j x y a (own e1 o1) o1 (own e2 o2) o2 s1 s2⟩
  rcases two j with q | ⟨xs, b, q1, q2⟩
  · rw [q] at e
    obtain ⟨v, s1, s2⟩ := S.slot j y e
    exact ⟨v, s1, s2.mono m fun a us _ _ w => kp a _ w⟩
  · rw [q2] at e; cases e
    obtain ⟨v, s1, a, us, rfl, h1, h2⟩ := S.slot j _ q1
    refine ⟨_, s1, .lst ⟨kp a _ h1, fun z => ?_⟩ (RpL.mono m _ _ h2)⟩
    rcases z with z | ⟨i, y, g1, g2, g3⟩
    · exact (S.own j _ a q1 rfl s1).1 z
    · have := S.inj i j y _ a (own g1 g2) g2 q1 rfl g3 s1
      subst this
      rw [q2] at g1; cases g1; cases g2
theorem scal_rp {O O' : Addr → Prop} {v : V} {d : PD} (h : scal d = true) (r : Rp K O H v d) : Rp K O' H' v d := by
  cases d with
  | none => rw [Rp.non_inv r]; exact .non
  | bool b => rw [Rp.bl_inv r]; exact .bl b
  | int i => rw [Rp.int_inv r]; exact .int i
  | str s => rw [Rp.str_inv r]; exact .str s
  | _ => cases h
end
theorem thawM_ok {is : List Nat} {f : M Rv} {ρ : Env} : thawM is f ρ = .bad ∨ (∃ d ρ', f ρ = .ok (.v (.val d)) ρ' ∧ scal d = true ∧ thawM is f ρ = .ok (.v (.val d)) (thawE ρ ρ' is)) ∨ ∃ c ρ', f ρ = .ex c ρ' ∧ thawM is f ρ = .ex c ρ' := by
  unfold thawM
  cases e : f ρ with
  | bad => exact .inl rfl
  | ex c ρ' => exact .inr (.inr ⟨c, ρ', rfl, rfl⟩)
  | ok r ρ' =>
    cases r with
    | al i => exact .inl rfl
    | v x =>
      cases x with
      | val d =>
        dsimp only
        cases hs : scal d with
        | true => exact .inr (.inl ⟨d, ρ', rfl, hs, rfl⟩)
        | false => exact .inl rfl
      | _ => exact .inl rfl
theorem DE.thaw {e : Expr} {f : M Rv} {is : List Nat} (he : DE X cad W [] e f) : DE X cad W T e (thawM is f) := by
  refine ⟨fun ρ => ?_, pe_of he.2 fun σ H Q ⟨H₀, B, Z, ρ, S, h⟩ => ⟨H₀, B, Z, ρ, S, ?_⟩⟩
  · rcases thawM_ok (is := is) (f := f) (ρ := ρ) with e1 | ⟨d, ρ', e1, _, e2⟩ | ⟨c, ρ', e1, e2⟩
    · rw [e1]; trivial
    · rw [e2]
      obtain ⟨l, two⟩ := thaw_two (is := is) (he.1.ok e1)
      refine ⟨l, fun j => ?_⟩
      rcases two j with q | ⟨xs, b, q1, q2⟩
      · rw [q]; exact .refl _
      · rw [q1, q2]; exact ⟨xs, fun _ => rfl, .inr (.inl rfl)⟩
    · rw [e2]; exact (he.1.ex e1).mono fun _ z => absurd z List.not_mem_nil
  · rcases thawM_ok (is := is) (f := f) (ρ := ρ) with e1 | ⟨d, ρ', e1, hs, e2⟩ | ⟨c, ρ', e1, e2⟩
    · rw [e1] at h; exact h.elim
    · rw [e2] at h
      rw [e1]
      intro v H' S' ev r
      exact h v H' (S.thaw (he.1.ok e1) ev) (ev.mono fun _ z => absurd z List.not_mem_nil) ⟨scal_rp hs r.1, trivial⟩
    · rw [e2] at h
      rw [e1]
      exact fun cl d H' S' ev x => h cl d H' S' (ev.mono fun _ z => absurd z List.not_mem_nil) x
end
end Gn

/-! Gn, part N: which text is which; the check is a program. -/
namespace Gn
open PySem PySem.Spec L2
open PyProof.Rows hiding St

/-- the text's names: defs (name, parameters), classes -/
structure Tb where
  fnm : List (Str × Nat)
  cnm : List Str
/-- a scope; a comprehension's: its scope as written -/
structure Sc where
  sc : Scope
  own : Option Scope
def Sc.fn (s : Sc) (x : Str) : Bool := match s.own with
  | none => true
  | some o => o.names.lookup x == some .cell
def relS (scope sc : Scope) : Scope := { scope with names := scope.names.map fun (n, k) => if (k == .free && sc.kind == .function && sc.names.lookup n == some .cell) then (n, .cell) else (n, k) }
def Sc.blk (s : Sc) (scope : Scope) : Sc := ⟨relS scope s.sc, some scope⟩
def visC (N : List Str) (s : Sc) (i : Nat) (x : Str) : Bool := decide (N[i]? = some x) && (s.sc.names.lookup x == some .local || s.sc.names.lookup x == some .cell || s.sc.names.lookup x == some .free) && !(x == ("__debug__" : Str)) && !(x == ("__classdict__" : Str))
def gloC (s : Sc) (x : Str) : Bool := s.sc.names.lookup x == some .globalImplicit && !(x == ("__debug__" : Str))
def locC (N : List Str) (s : Sc) (i : Nat) (x : Str) : Bool := decide (N[i]? = some x) && (s.sc.names.lookup x == some .local || (s.sc.names.lookup x == some .cell && s.fn x))
def biN : Bi → Str
  | .abs => "abs"
  | .all => "all"
  | .any => "any"
  | .bool => "bool"
  | .int => "int"
  | .len => "len"
  | .list => "list"
  | .tuple => "tuple"
  | .max1 => "max"
  | .max2 => "max"
  | .min1 => "min"
  | .min2 => "min"
  | .sorted => "sorted"
  | .sortedSet => "sorted"
  | .lenSet => "len"
  | .sum => "sum"
def tyS : Ty → Str
  | .int => "int"
  | .bool => "bool"
  | .str => "str"
  | .list => "list"
  | .tuple => "tuple"
/-- the built-ins that are named -/
def bltTab : List (Str × Value) := [("abs", .builtin "abs"), ("all", .builtin "all"), ("any", .builtin "any"), ("bool", .type "bool"), ("int", .type "int"), ("len", .builtin "len"), ("list", .type "list"), ("tuple", .type "tuple"), ("max", .builtin "max"), ("min", .builtin "min"),
  ("sorted", .builtin "sorted"), ("sum", .builtin "sum"), ("str", .type "str"), ("isinstance", .builtin "isinstance"), ("range", .type "range"), ("enumerate", .type "enumerate"), ("zip", .type "zip"), ("set", .type "set")]
theorem bltTab_ok : ∀ p ∈ bltTab, bootBuiltins p.1 = some p.2 ∧ p.1 ≠ "__name__" ∧ (p.1 == ("__debug__" : Str)) = false := by
  have h : (bltTab.all fun p => decide (bootBuiltins p.1 = some p.2) && decide (p.1 ≠ "__name__") && decide ((p.1 == ("__debug__" : Str)) = false)) = true := by decide +kernel
  intro p hp
  have := List.all_eq_true.mp h p hp
  simp only [Bool.and_eq_true, decide_eq_true_eq] at this
  exact ⟨this.1.1, this.1.2, this.2⟩
def notSet : Expr → Bool
  | .Set .. => false
  | _ => true
def tysC (s : Sc) : List Expr → List Ty → Bool
  | [], [] => true
  | .Name y _ :: es, t :: ts => decide (y = tyS t) && gloC s y && tysC s es ts
  | _, _ => false
/-- a target -/
def isTup : Expr → Bool
  | .Tuple .. => true
  | _ => false
mutual
def mG (N : List Str) (s : Sc) : Tg → Expr → Bool
  | .name i, .Name x _ => locC N s i x
  | .nil, .Tuple [] _ _ => true
  | .cons t ts, .Tuple (e :: es) _ _ => mG N s t e && mGs N s ts es
  | _, _ => false
def mGs (N : List Str) (s : Sc) : Tg → List Expr → Bool
  | .nil, [] => true
  | .cons t ts, e :: es => mG N s t e && mGs N s ts es
  | _, _ => false
end
def CEs.len : CEs → Nat
  | .nil => 0
  | .cons _ es => es.len + 1
def nsC : Expr → Bool
  | .Starred .. => false
  | _ => true
def nslC : Expr → Bool
  | .Slice .. => false
  | _ => true
def plC : Expr → Bool
  | .UnaryOp .Not _ _ => false
  | .BoolOp .. => false
  | .IfExp .. => false
  | .Compare .. => false
  | _ => true
/-- the name y is the built-in x -/
def nmC (s : Sc) (x : Str) (y : Str) : Bool := decide (y = x) && gloC s y
mutual
def mE (N : List Str) (tb : Tb) : CE → Sc → Expr → Bool
  | .var i, s, ast => (match ast with
    | .Name x _ => visC N s i x
    | _ => false)
  | .con k, _, ast => (match k, ast with
    | .none, .Constant .none _ _ => true
    | .bool b, .Constant (.bool c) _ _ => b == c
    | .int i, .Constant (.int j) _ _ => decide (i = j)
    | .str x, .Constant (.str y) _ _ => decide (x = y)
    | _, _ => false)
  | .tup es, s, ast => (match ast with
    | .Tuple xs _ _ => mEs N tb es s xs && decide (es.len ≤ 1000)
    | _ => false)
  | .lst es, s, ast => (match ast with
    | .List xs _ => mEs N tb es s xs && decide (es.len ≤ 1000)
    | _ => false)
  | .bin o a b, s, ast => (match ast with
    | .BinOp x op y _ => decide (op = bopOf o) && (mE N tb a s x && mE N tb b s y)
    | _ => false)
  | .neg a, s, ast => (match ast with
    | .UnaryOp .USub x _ => mE N tb a s x
    | _ => false)
  | .not a, s, ast => (match ast with
    | .UnaryOp .Not x _ => mE N tb a s x
    | _ => false)
  | .and a b, s, ast => (match ast with
    | .BoolOp .And (x :: y :: r) p => mE N tb a s x && (match r with
      | [] => mE N tb b s y
      | z :: r => mE N tb b s (.BoolOp .And (y :: z :: r) p))
    | _ => false)
  | .or a b, s, ast => (match ast with
    | .BoolOp .Or (x :: y :: r) p => mE N tb a s x && (match r with
      | [] => mE N tb b s y
      | z :: r => mE N tb b s (.BoolOp .Or (y :: z :: r) p))
    | _ => false)
  | .ite c a b, s, ast => (match ast with
    | .IfExp t x y _ => mT N tb c s t && (mE N tb a s x && mE N tb b s y)
    | _ => false)
  | .cmp o a b, s, ast => (match ast with
    | .Compare x [op] [y] _ => decide (op = copOf o) && notSet y && (mE N tb a s x && mE N tb b s y)
    | _ => false)
  | .cmp2 o1 o2 a b c, s, ast => (match ast with
    | .Compare x [op1, op2] [y, z] _ => decide (op1 = copOf o1) && decide (op2 = copOf o2) && notSet z && (mE N tb a s x && (mE N tb b s y && mE N tb c s z))
    | _ => false)
  | .sub a b, s, ast => (match ast with
    | .Subscript x y _ => nslC y && (mE N tb a s x && mE N tb b s y)
    | _ => false)
  | .slc a lo hi, s, ast => (match ast with
    | .Subscript x (.Slice l h none _) _ => mE N tb a s x && (mO N tb lo s l && mO N tb hi s h)
    | _ => false)
  | .rev a, s, ast => (match ast with
    | .Subscript x (.Slice none none (some (.UnaryOp .USub (.Constant (.int 1) _ _) _)) _) _ => mE N tb a s x
    | _ => false)
  | .call f _ es, s, ast => (match ast with
    | .Call (.Name x _) (y :: ys) [] _ => decide (tb.fnm[f]? = some (x, es.len)) && gloC s x && mEs N tb es s (y :: ys)
    | _ => false)
  | .bi b es, s, ast => (match biOk b, ast with
    | true, .Call (.Name x _) (y :: ys) [] _ => nmC s (biN b) x && mEs N tb es s (y :: ys)
    | false, .Call (.Name x _) [.Call (.Name z _) [y] [] _] [] _ => decide (b = .sortedSet) && nmC s "sorted" x && nmC s "set" z && mEs N tb es s [y]
    | _, _ => false)
  | .isi a ts, s, ast => (match ast with
    | .Call (.Name x _) [y, .Name t _] [] _ => nmC s "isinstance" x && nsC y && mE N tb a s y && (match ts with
      | [ty] => nmC s (tyS ty) t
      | _ => false)
    | .Call (.Name x _) [y, .Tuple es _ _] [] _ => nmC s "isinstance" x && nsC y && mE N tb a s y && (tysC s es ts && decide (ts.length ≤ 1000))
    | _ => false)
  | .lstI it, s, ast => (match ast with
    | .Call (.Name x _) [r] [] _ => nmC s "list" x && mR N tb it s r
    | _ => false)
  | .tupI it, s, ast => (match ast with
    | .Call (.Name x _) [r] [] _ => nmC s "tuple" x && mR N tb it s r
    | _ => false)
  | .comp elt own tg it c, s, ast => (match ast with
    | .ListComp x [⟨t, i, ifs, 0⟩] scope _ => blkC N s.sc scope (own.map fun j => ((N[j]?).getD "", j)) && (namesT tg).all (fun j => own.contains j) && mG N (s.blk scope) tg t && notSet i && decide (scope.kind = .function) &&
      (mI N tb it s t i && ((match ifs with
        | [] => (match c with | .yes => true | _ => false)
        | [k] => mT N tb c (s.blk scope) k
        | _ => false) && mE N tb elt (s.blk scope) x))
    | _ => false)
  | .app i e, s, ast => (match ast with
    | .Call (.Attribute (.Name x _) m ap) [y] [] cp => decide (m = "append") && visC N s i x && (ap.endLine == cp.line) && nsC y && mE N tb e s y
    | _ => false)
  | .ext i e, s, ast => (match ast with
    | .Call (.Attribute (.Name x _) m ap) [y] [] cp => decide (m = "extend") && visC N s i x && (ap.endLine == cp.line) && nsC y && mE N tb e s y
    | _ => false)
  | .pop i o, s, ast => (match ast with
    | .Call (.Attribute (.Name x _) m ap) ys [] cp => decide (m = "pop") && visC N s i x && (ap.endLine == cp.line) && (match ys with
      | [] => mO N tb o s none
      | [y] => nsC y && mO N tb o s (some y)
      | _ => false)
    | _ => false)
  | .thaw _ e, s, x => (mutE e).isEmpty && mE N tb e s x
def mEs (N : List Str) (tb : Tb) : CEs → Sc → List Expr → Bool
  | .nil, _, xs => xs.isEmpty
  | .cons e es, s, xs => (match xs with
    | x :: xs => nsC x && (mE N tb e s x && mEs N tb es s xs)
    | [] => false)
def mO (N : List Str) (tb : Tb) : CEo → Sc → Option Expr → Bool
  | .none, _, x => x.isNone
  | .some e, s, x => (match x with
    | some x => mE N tb e s x
    | none => false)
def mT (N : List Str) (tb : Tb) : CT → Sc → Expr → Bool
  | .yes, _, _ => false
  | .val (.cmp o a b), s, ast => (match ast with
    | .Compare x [op] [y] _ => decide (op = copOf o) && notSet y && (mE N tb a s x && mE N tb b s y)
    | _ => false)
  | .val (.cmp2 o1 o2 a b c), s, ast => (match ast with
    | .Compare x [op1, op2] [y, z] _ => decide (op1 = copOf o1) && decide (op2 = copOf o2) && notSet z && (mE N tb a s x && (mE N tb b s y && mE N tb c s z))
    | _ => false)
  | .val e, s, x => plC x && mE N tb e s x
  | .not t, s, ast => (match ast with
    | .UnaryOp .Not x _ => mT N tb t s x
    | _ => false)
  | .and a b, s, ast => (match ast with
    | .BoolOp .And (x :: y :: r) p => mT N tb a s x && (match r with
      | [] => mT N tb b s y
      | z :: r => mT N tb b s (.BoolOp .And (y :: z :: r) p))
    | _ => false)
  | .or a b, s, ast => (match ast with
    | .BoolOp .Or (x :: y :: r) p => mT N tb a s x && (match r with
      | [] => mT N tb b s y
      | z :: r => mT N tb b s (.BoolOp .Or (y :: z :: r) p))
    | _ => false)
  | .ite _ _ _, _, _ => false
/-- a range -/
def mR (N : List Str) (tb : Tb) : CI → Sc → Expr → Bool
  | .rng1 e, s, ast => (match ast with
    | .Call (.Name z _) [y] [] _ => nmC s "range" z && nsC y && mE N tb e s y
    | _ => false)
  | .rng2 e f, s, ast => (match ast with
    | .Call (.Name z _) [y, u] [] _ => nmC s "range" z && nsC y && nsC u && (mE N tb e s y && mE N tb f s u)
    | _ => false)
  | _, _, _ => false
def mI (N : List Str) (tb : Tb) : CI → Sc → Expr → Expr → Bool
  | .seq e, s, _, x => mE N tb e s x
  | .rng1 e, s, _, ast => (match ast with
    | .Call (.Name z _) [y] [] _ => nmC s "range" z && nsC y && mE N tb e s y
    | _ => false)
  | .rng2 e f, s, _, ast => (match ast with
    | .Call (.Name z _) [y, u] [] _ => nmC s "range" z && nsC y && nsC u && (mE N tb e s y && mE N tb f s u)
    | _ => false)
  | .enum e, s, t, ast => (match ast with
    | .Call (.Name z _) [y] [] _ => isTup t && nmC s "enumerate" z && nsC y && mE N tb e s y
    | _ => false)
  | .zip e f, s, t, ast => (match ast with
    | .Call (.Name z _) [y, u] [] _ => isTup t && nmC s "zip" z && nsC y && nsC u && (mE N tb e s y && mE N tb f s u)
    | _ => false)
end
end Gn

/-! Gn, part O: the check is sound (expressions). -/
namespace Gn
open PySem PySem.Spec
open L2 hiding Loc
open PyProof.Rows hiding St

/-! ### what is known of a context -/
/-- facts of the text: φ, k: the evaluator's defs, the room that a call has -/
structure XOk (cad : Nat → Option Addr) (φ : Fns) (k : Nat) (tb : Tb) (N : List Str) (s : Sc) (W : WX) (X : Cx) : Prop where
  hN : X.N = N
  nd : N.Nodup
  sc : X.env.scope = s.sc
  fn : ∀ x, s.fn x = true → X.fn x = true
  fk : s.sc.kind = .function
  calm : X.calm = true
  room : Room k X.A
  tk : Takes X W
  blt : ∀ p ∈ bltTab, X.mg p.1 = none
  fns : ∀ (f : Nat) (x : Str) (np : Nat), tb.fnm[f]? = some (x, np) → ∃ fa fd ps, X.mg x = some (.ref fa) ∧ PySem.W.keepIn X.K (.ref fa) = true ∧ Binds X.K fd ps [] ∧ FnOk X.prog X.w X.K X.mg X.base (L2.CX X.prog X.w) k fa fd ps (spF X.K cad (φ f) np)
section
variable {cad : Nat → Option Addr} {φ : Fns} {k : Nat} {tb : Tb} {N : List Str} {s : Sc} {W : WX} {X : Cx} {T : List Nat}
theorem XOk.units (h : XOk cad φ k tb N s W X) : X.A.units + 64 < cLine := h.room.units
theorem relS_eq {env : PySem.Env} {scope : Scope} : relabel scope env = relS scope env.scope := rfl
theorem XOk.blk (h : XOk cad φ k tb N s W X) (scope : Scope) (hk : scope.kind = .function) (sh : Shared) (H : Hp) (C : Addr) (cl : List (Str × Addr)) (fp : List Addr) : XOk cad φ k tb N (s.blk scope) W0 (X.blk sh H scope (compEnvC scope cl C X.env) fp) where
  hN := h.hN
  nd := h.nd
  sc := by
    show relabel scope X.env = relS scope s.sc
    rw [relS_eq, h.sc]
  fn := fun x e => e
  fk := hk
  calm := h.calm
  room := h.room
  tk := takes_none5
  blt := h.blt
  fns := h.fns
theorem XOk.vis (h : XOk cad φ k tb N s W X) {i : Nat} {x : Str} (c : visC N s i x = true) : X.N[i]? = some x ∧ Vis X.env.scope x ∧ (x == ("__debug__" : Str)) = false ∧ (x == ("__classdict__" : Str)) = false := by
  simp only [visC, Bool.and_eq_true, Bool.or_eq_true, Bool.not_eq_true', decide_eq_true_eq, beq_iff_eq] at c
  refine ⟨by rw [h.hN]; exact c.1.1.1, ?_, by simpa using c.1.2, by simpa using c.2⟩
  unfold Vis
  rw [h.sc]
  rcases c.1.1.2 with (e | e) | e
  · exact .inl e
  · exact .inr (.inl e)
  · exact .inr (.inr e)
theorem XOk.glo (h : XOk cad φ k tb N s W X) {x : Str} (c : gloC s x = true) : Gl X x ∧ (x == ("__debug__" : Str)) = false := by
  simp only [gloC, Bool.and_eq_true, Bool.not_eq_true', beq_iff_eq] at c
  refine ⟨?_, by simpa using c.2⟩
  show X.env.scope.names.lookup x = some .globalImplicit
  rw [h.sc]; exact c.1
theorem XOk.bl (h : XOk cad φ k tb N s W X) {x : Str} {u : Value} (c : gloC s x = true) (m : (x, u) ∈ bltTab) : Blt X x u := by
  obtain ⟨b1, b2, b3⟩ := bltTab_ok _ m
  exact ⟨(h.glo c).1, h.blt _ m, b1, b2, b3⟩
theorem XOk.loc (h : XOk cad φ k tb N s W X) {i : Nat} {x : Str} (c : locC N s i x = true) : X.N[i]? = some x ∧ L2.Loc X.env.scope x ∧ (X.fn x = true ∨ X.env.scope.names.lookup x = some .local) := by
  simp only [locC, Bool.and_eq_true, Bool.or_eq_true, decide_eq_true_eq, beq_iff_eq] at c
  refine ⟨by rw [h.hN]; exact c.1, ?_, ?_⟩
  · unfold L2.Loc
    rw [h.sc]
    rcases c.2 with e | e
    · exact .inl e
    · exact .inr e.1
  · rw [h.sc]
    rcases c.2 with e | e
    · exact .inr e
    · exact .inl (h.fn x e.2)
theorem nsC_ok : ∀ {e : Expr}, nsC e = true → NoStar e
  | .Starred .., h => nomatch h
  | .BoolOp .., _ => fun _ _ => rfl
  | .NamedExpr .., _ => fun _ _ => rfl
  | .BinOp .., _ => fun _ _ => rfl
  | .UnaryOp .., _ => fun _ _ => rfl
  | .Lambda .., _ => fun _ _ => rfl
  | .IfExp .., _ => fun _ _ => rfl
  | .Dict .., _ => fun _ _ => rfl
  | .Set .., _ => fun _ _ => rfl
  | .ListComp .., _ => fun _ _ => rfl
  | .SetComp .., _ => fun _ _ => rfl
  | .DictComp .., _ => fun _ _ => rfl
  | .GeneratorExp .., _ => fun _ _ => rfl
  | .Await .., _ => fun _ _ => rfl
  | .Yield .., _ => fun _ _ => rfl
  | .YieldFrom .., _ => fun _ _ => rfl
  | .Compare .., _ => fun _ _ => rfl
  | .Call .., _ => fun _ _ => rfl
  | .FormattedValue .., _ => fun _ _ => rfl
  | .JoinedStr .., _ => fun _ _ => rfl
  | .Constant .., _ => fun _ _ => rfl
  | .Attribute .., _ => fun _ _ => rfl
  | .Subscript .., _ => fun _ _ => rfl
  | .Name .., _ => fun _ _ => rfl
  | .List .., _ => fun _ _ => rfl
  | .Tuple .., _ => fun _ _ => rfl
  | .Slice .., _ => fun _ _ => rfl
theorem nslC_ok : ∀ {e : Expr}, nslC e = true → PlainIx e := fun {e} h => by
  intro o i
  cases e <;> first | exact absurd h Bool.false_ne_true | (unfold subscripted; rfl) | rfl
theorem plC_ok {env : PySem.Env} : ∀ {e : Expr}, plC e = true → (∀ whole, isTrue e env whole = (do let v ← whole; standAt e.pos; holding [v] (truthy v))) ∧ ∀ op es p, e ≠ .BoolOp op es p := fun {e} h => by
  cases e with
  | UnaryOp op x p => cases op <;> first | exact absurd h Bool.false_ne_true | exact ⟨fun _ => rfl, fun _ _ _ z => nomatch z⟩
  | BoolOp => cases h
  | IfExp => cases h
  | Compare => cases h
  | _ => exact ⟨fun _ => rfl, fun _ _ _ z => nomatch z⟩
theorem notSet_in {op : CmpOp} : ∀ {e : Expr}, notSet e = true → behindInMarks op e = false := fun {e} h => by
  cases e <;> first | exact absurd h Bool.false_ne_true | rfl
theorem notSet_last {o1 o2 : CmpOp} {a : Expr} : ∀ {e : Expr}, notSet e = true → lastMarks [o1, o2] [a, e] = false := fun {e} h => notSet_in (op := o2) h
theorem notSet_for {env : PySem.Env} : ∀ {e : Expr}, notSet e = true → ∀ x, foldedSetIterable e env x = pure x := fun {e} h x => by
  cases e <;> first | exact absurd h Bool.false_ne_true | rfl
theorem XOk.nm (h : XOk cad φ k tb N s W X) {x y : Str} {u : Value} (c : nmC s x y = true) (m : (x, u) ∈ bltTab) : Blt X y u := by
  simp only [nmC, Bool.and_eq_true, decide_eq_true_eq] at c
  rw [c.1]
  exact h.bl (by rw [← c.1]; exact c.2) m
theorem nmC_eq {x y : Str} (c : nmC s x y = true) : y = x := by
  simp only [nmC, Bool.and_eq_true, decide_eq_true_eq] at c
  exact c.1
def nsG : Expr → Bool
  | .Starred .. => false
  | _ => true
theorem nsG_ok {env : PySem.Env} : ∀ {e : Expr} {es : List Expr}, nsG e = true → assignEach (e :: es) env = (false, assign e env) :: assignEach es env := fun {e es} h => by
  cases e <;> first | exact absurd h Bool.false_ne_true | rfl
theorem mG_ns {N : List Str} {s : Sc} : ∀ {t : Tg} {e : Expr}, mG N s t e = true → nsG e = true := fun {t e} h => by
  cases e <;> first | rfl | (cases t <;> exact absurd h Bool.false_ne_true)
mutual
theorem mG_ok (h : XOk cad φ k tb N s W X) : ∀ (t : Tg) (e : Expr), mG N s t e = true → PG X e (gR X.K t)
  | .name i, e, c => by
    cases e with
    | Name x p =>
      obtain ⟨h1, h2, h3⟩ := h.loc (i := i) c
      exact pg_name (by rw [h.hN]; exact h.nd) h1 h2 h3
    | _ => exact absurd c Bool.false_ne_true
  | .nil, e, c => by
    cases e with
    | Tuple es n p =>
      cases es with
      | nil => exact pg_tup h.calm pgs_nil rfl rfl
      | cons _ _ => exact absurd c Bool.false_ne_true
    | _ => exact absurd c Bool.false_ne_true
  | .cons t ts, e, c => by
    cases e with
    | Tuple es n p =>
      cases es with
      | nil => exact absurd c Bool.false_ne_true
      | cons e es =>
        have c : (mG N s t e && mGs N s ts es) = true := c
        rw [Bool.and_eq_true] at c
        have g1 := mG_ok h t e c.1
        obtain ⟨g2, l2, f2⟩ := mGs_ok h ts es c.2
        have ae := nsG_ok (env := X.env) (es := es) (mG_ns c.1)
        exact pg_tup h.calm (pgs_cons g1 g2 (by rw [ae]; rfl)) (by rw [ae, List.length_cons, l2]) (by rw [ae, List.findIdx?_cons, f2]; rfl)
    | _ => exact absurd c Bool.false_ne_true
theorem mGs_ok (h : XOk cad φ k tb N s W X) : ∀ (t : Tg) (es : List Expr), mGs N s t es = true → PGs X es (gsR X.K t) ∧ (assignEach es X.env).length = lenT t ∧ (assignEach es X.env).findIdx? (·.1) = none
  | .name _, es, c => by cases es <;> exact absurd c Bool.false_ne_true
  | .nil, es, c => by
    cases es with
    | nil => exact ⟨pgs_nil, rfl, rfl⟩
    | cons _ _ => exact absurd c Bool.false_ne_true
  | .cons t ts, es, c => by
    cases es with
    | nil => exact absurd c Bool.false_ne_true
    | cons e es =>
      have c : (mG N s t e && mGs N s ts es) = true := c
      rw [Bool.and_eq_true] at c
      have g1 := mG_ok h t e c.1
      obtain ⟨g2, l2, f2⟩ := mGs_ok h ts es c.2
      have ae := nsG_ok (env := X.env) (es := es) (mG_ns c.1)
      exact ⟨pgs_cons g1 g2 (by rw [ae]; rfl), by rw [ae, List.length_cons, l2]; rfl, by rw [ae, List.findIdx?_cons, f2]; rfl⟩
end

/-! ### how many there are; what is lent -/
theorem evs_len : ∀ es : CEs, MLen es.len (evs φ es)
  | .nil => .nil
  | .cons e es => by
    show MLen (es.len + 1) ((ev φ e).bind fun x => (freeze x).bind fun d => (evs φ es).bind fun ds => M.ret (d :: ds))
    exact .bind fun x => .bind fun d => .cons (evs_len es)
theorem evas_len : ∀ (es : CEs) (rs : List Bool), MLen es.len (evas φ es rs)
  | .nil, _ => .nil
  | .cons e es, rs => by
    have gen : MLen (es.len + 1) ((ev φ e).bind fun x => (freeze x).bind fun d => (evas φ es rs.tail).bind fun as => M.ret (AR.val d :: as)) := .bind fun x => .bind fun d => .cons (evas_len es rs.tail)
    cases e with
    | var i =>
      cases rs with
      | nil => exact gen
      | cons r rs =>
        cases r with
        | false => exact gen
        | true =>
          show MLen (es.len + 1) ((lendV i).bind fun a => (evas φ es rs).bind fun as => M.ret (a :: as))
          exact .bind fun a => .cons (evas_len es rs)
    | _ => exact gen
theorem lentE_nil : ∀ es : CEs, lentE es [] = []
  | .nil => rfl
  | .cons e es => by cases e <;> rfl
theorem evas_lent : ∀ (es : CEs) (rs : List Bool) {ρ ρ' : Env} {as : List AR}, evas φ es rs ρ = .ok as ρ' → ∀ j, j ∈ lentOf as → j ∈ lentE es rs
  | .nil, _, ρ, ρ', as, h, j, hj => by
    have h : M.ret ([] : List AR) ρ = .ok as ρ' := h
    cases h
    exact absurd hj List.not_mem_nil
  | .cons e es, rs, ρ, ρ', as, h, j, hj => by
    have gen : ((ev φ e).bind fun x => (freeze x).bind fun d => (evas φ es rs.tail).bind fun as => M.ret (AR.val d :: as)) ρ = .ok as ρ' → j ∈ lentE es rs.tail := fun h => by
      obtain ⟨x, ρ1, _, h⟩ := M.bind_ok h
      obtain ⟨d, ρ2, _, h⟩ := M.bind_ok h
      obtain ⟨bs, ρ3, e3, h⟩ := M.bind_ok h
      cases h
      exact evas_lent es rs.tail e3 j hj
    cases e with
    | var i =>
      cases rs with
      | nil =>
        have q := gen h
        have q : j ∈ lentE es [] := q
        rw [lentE_nil] at q
        exact absurd q List.not_mem_nil
      | cons r rs =>
        cases r with
        | false => exact gen h
        | true =>
          have h : ((lendV i).bind fun a => (evas φ es rs).bind fun as => M.ret (a :: as)) ρ = .ok as ρ' := h
          obtain ⟨a, ρ1, e1, h⟩ := M.bind_ok h
          obtain ⟨bs, ρ3, e3, h⟩ := M.bind_ok h
          cases h
          show j ∈ i :: lentE es rs
          rcases lendV_ok (ρ := ρ) (i := i) with e2 | ⟨d, _, e2⟩ | ⟨x, _, e2⟩
          · rw [e2] at e1; cases e1
          · rw [e2] at e1; cases e1
            exact List.mem_cons_of_mem _ (evas_lent es rs e3 j hj)
          · rw [e2] at e1; cases e1
            rcases List.mem_cons.mp hj with z | z
            · rw [z]; exact List.mem_cons_self ..
            · exact List.mem_cons_of_mem _ (evas_lent es rs e3 j z)
    | _ =>
      have q := gen h
      cases rs with
      | nil =>
        have q : j ∈ lentE es [] := q
        rw [lentE_nil] at q
        exact absurd q List.not_mem_nil
      | cons r rs => exact q
theorem app_l {P : Nat → Prop} {l m : List Nat} (h : ∀ i ∈ l ++ m, P i) : ∀ i ∈ l, P i := fun i hi => h i (List.mem_append_left _ hi)
theorem app_r {P : Nat → Prop} {l m : List Nat} (h : ∀ i ∈ l ++ m, P i) : ∀ i ∈ m, P i := fun i hi => h i (List.mem_append_right _ hi)
theorem tysC_ok (h : XOk cad φ k tb N s W X) : ∀ {es : List Expr} {ts : List Ty}, tysC s es ts = true → TyNs X es ts
  | [], [], _ => .nil
  | [], _ :: _, c => absurd c Bool.false_ne_true
  | e :: es, [], c => by cases e <;> exact absurd c Bool.false_ne_true
  | e :: es, t :: ts, c => by
    cases e with
    | Name y p =>
      have c : (decide (y = tyS t) && gloC s y && tysC s es ts) = true := c
      simp only [Bool.and_eq_true, decide_eq_true_eq] at c
      refine .cons ?_ (tysC_ok h c.2)
      refine h.bl c.1.2 ?_
      rw [c.1.1]
      cases t <;> simp [bltTab, tyS, tyN]
    | _ => exact absurd c Bool.false_ne_true
theorem biN_tab {b : Bi} (h : biOk b = true) : (biN b, biC b) ∈ bltTab := by
  cases b <;> first | exact absurd h Bool.false_ne_true | simp [bltTab, biN, biC]
theorem tyS_tab (t : Ty) : (tyS t, Value.type (tyN t)) ∈ bltTab := by
  cases t <;> simp [bltTab, tyS, tyN]
theorem mEs_len : ∀ (es : CEs) (s : Sc) (xs : List Expr), mEs N tb es s xs = true → es.len = xs.length
  | .nil, s, xs, h => by
    cases xs with
    | nil => rfl
    | cons _ _ => exact absurd h Bool.false_ne_true
  | .cons e es, s, xs, h => by
    cases xs with
    | nil => exact absurd h Bool.false_ne_true
    | cons x xs =>
      have h : (nsC x && (mE N tb e s x && mEs N tb es s xs)) = true := h
      simp only [Bool.and_eq_true] at h
      exact congrArg (· + 1) (mEs_len es s xs h.2.2)
theorem mEs_ns : ∀ (es : CEs) (s : Sc) (xs : List Expr), mEs N tb es s xs = true → NoStars xs
  | .nil, s, xs, h => by
    cases xs with
    | nil => exact .nil
    | cons _ _ => exact absurd h Bool.false_ne_true
  | .cons e es, s, xs, h => by
    cases xs with
    | nil => exact absurd h Bool.false_ne_true
    | cons x xs =>
      have h : (nsC x && (mE N tb e s x && mEs N tb es s xs)) = true := h
      simp only [Bool.and_eq_true] at h
      exact .cons (nsC_ok h.1) (mEs_ns es s xs h.2.2)
end
end Gn

/-! Gn, part P: the check of expressions is sound. -/
namespace Gn
open PySem PySem.Spec
open L2 hiding Loc
open PyProof.Rows hiding St

section
variable {cad : Nat → Option Addr} {φ : Fns} {k : Nat} {tb : Tb} {N : List Str}
theorem and2 {a b : Bool} (h : (a && b) = true) : a = true ∧ b = true := by simpa using h
mutual
theorem sE : ∀ (e : CE) (s : Sc) (x : Expr) (X : Cx) (W : WX) (T : List Nat), mE N tb e s x = true → XOk cad φ k tb N s W X → (∀ i ∈ mutE e, i ∈ T) → DE X cad W T x (ev φ e)
  | .var i, s, x, X, W, T, h, ok, hT => by
    cases x with
    | Name y p =>
      obtain ⟨h1, h2, h3, h4⟩ := ok.vis (i := i) (x := y) h
      exact DE.var h1 h2 h3 h4
    | _ => exact absurd h Bool.false_ne_true
  | .con c, s, x, X, W, T, h, ok, hT => by
    simp only [mE] at h
    split at h
    · exact DE.kNone
    · have := eq_of_beq h
      subst this
      exact DE.kBool
    · have := of_decide_eq_true h
      subst this
      exact DE.kInt
    · have := of_decide_eq_true h
      subst this
      exact DE.kStr
    · exact absurd h Bool.false_ne_true
  | .tup es, s, x, X, W, T, h, ok, hT => by
    cases x with
    | Tuple xs n p =>
      obtain ⟨h1, h2⟩ := and2 h
      exact DE.tup (sEsF es s xs X W T h1 ok hT) (evs_len es) (of_decide_eq_true h2)
    | _ => exact absurd h Bool.false_ne_true
  | .lst es, s, x, X, W, T, h, ok, hT => by
    cases x with
    | List xs p =>
      obtain ⟨h1, h2⟩ := and2 h
      exact DE.lst (sEsF es s xs X W T h1 ok hT) (evs_len es) (of_decide_eq_true h2)
    | _ => exact absurd h Bool.false_ne_true
  | .bin o a b, s, x, X, W, T, h, ok, hT => by
    cases x with
    | BinOp x op y p =>
      obtain ⟨h1, h2⟩ := and2 h
      obtain ⟨h2, h3⟩ := and2 h2
      have := of_decide_eq_true h1
      subst this
      exact DE.bin (sE a s x X W T h2 ok (app_l hT)) (sE b s y X W T h3 ok (app_r hT))
    | _ => exact absurd h Bool.false_ne_true
  | .neg a, s, x, X, W, T, h, ok, hT => by
    cases x with
    | UnaryOp op x p =>
      cases op with
      | USub => exact DE.neg (sE a s x X W T h ok hT)
      | _ => exact absurd h Bool.false_ne_true
    | _ => exact absurd h Bool.false_ne_true
  | .not a, s, x, X, W, T, h, ok, hT => by
    cases x with
    | UnaryOp op x p =>
      cases op with
      | Not => exact DE.not (sE a s x X W T h ok hT)
      | _ => exact absurd h Bool.false_ne_true
    | _ => exact absurd h Bool.false_ne_true
  | .and a b, s, x, X, W, T, h, ok, hT => by
    simp only [mE] at h
    split at h
    · rename_i x y r p
      obtain ⟨h1, h2⟩ := and2 h
      have ha := sE a s x X W T h1 ok (app_l hT)
      cases r with
      | nil => exact DE.and ha (DE.one (sE b s y X W T h2 ok (app_r hT)))
      | cons z r => exact DE.and ha (sE b s _ X W T h2 ok (app_r hT))
    · exact absurd h Bool.false_ne_true
  | .or a b, s, x, X, W, T, h, ok, hT => by
    simp only [mE] at h
    split at h
    · rename_i x y r p
      obtain ⟨h1, h2⟩ := and2 h
      have ha := sE a s x X W T h1 ok (app_l hT)
      cases r with
      | nil => exact DE.or ha (DE.one (sE b s y X W T h2 ok (app_r hT)))
      | cons z r => exact DE.or ha (sE b s _ X W T h2 ok (app_r hT))
    · exact absurd h Bool.false_ne_true
  | .ite c a b, s, x, X, W, T, h, ok, hT => by
    cases x with
    | IfExp t x y p =>
      obtain ⟨h1, h2⟩ := and2 h
      obtain ⟨h2, h3⟩ := and2 h2
      exact DE.ite (sT c s t X W T h1 ok (app_l hT)) (sE a s x X W T h2 ok (app_l (app_r hT))) (sE b s y X W T h3 ok (app_r (app_r hT)))
    | _ => exact absurd h Bool.false_ne_true
  | .cmp o a b, s, x, X, W, T, h, ok, hT => by
    simp only [mE] at h
    split at h
    · rename_i x op y p
      obtain ⟨h1, h2⟩ := and2 h
      obtain ⟨h1, h4⟩ := and2 h1
      obtain ⟨h2, h3⟩ := and2 h2
      have := of_decide_eq_true h1
      subst this
      exact DE.cmp ok.units (notSet_in h4) (sE a s x X W T h2 ok (app_l hT)) (sE b s y X W T h3 ok (app_r hT))
    · exact absurd h Bool.false_ne_true
  | .cmp2 o1 o2 a b c, s, x, X, W, T, h, ok, hT => by
    simp only [mE] at h
    split at h
    · rename_i x op1 op2 y z p
      obtain ⟨h1, h2⟩ := and2 h
      obtain ⟨h1, h4⟩ := and2 h1
      obtain ⟨h1, h5⟩ := and2 h1
      obtain ⟨h2, h3⟩ := and2 h2
      obtain ⟨h3, h6⟩ := and2 h3
      have e1 := of_decide_eq_true h1
      have e2 := of_decide_eq_true h5
      subst e1 e2
      exact DE.cmp2 ok.units (notSet_last h4) (sE a s x X W T h2 ok (app_l hT)) (sE b s y X W T h3 ok (app_l (app_r hT))) (sE c s z X W T h6 ok (app_r (app_r hT)))
    · exact absurd h Bool.false_ne_true
  | .sub a b, s, x, X, W, T, h, ok, hT => by
    cases x with
    | Subscript x y p =>
      obtain ⟨h1, h2⟩ := and2 h
      obtain ⟨h2, h3⟩ := and2 h2
      exact DE.sub (nslC_ok h1) (sE a s x X W T h2 ok (app_l hT)) (sE b s y X W T h3 ok (app_r hT))
    | _ => exact absurd h Bool.false_ne_true
  | .slc a lo hi, s, x, X, W, T, h, ok, hT => by
    simp only [mE] at h
    split at h
    · rename_i x l u p2 p
      obtain ⟨h1, h2⟩ := and2 h
      obtain ⟨h2, h3⟩ := and2 h2
      exact DE.slc (sE a s x X W T h1 ok (app_l hT)) (sO lo s l X W T h2 ok (app_l (app_r hT))) (sO hi s u X W T h3 ok (app_r (app_r hT)))
    · exact absurd h Bool.false_ne_true
  | .rev a, s, x, X, W, T, h, ok, hT => by
    simp only [mE] at h
    split at h
    · exact DE.rev (sE a s _ X W T h ok hT)
    · exact absurd h Bool.false_ne_true
  | .call f rs es, s, x, X, W, T, h, ok, hT => by
    simp only [mE] at h
    split at h
    · rename_i y p e ys pos
      obtain ⟨h1, h2⟩ := and2 h
      obtain ⟨h1, h3⟩ := and2 h1
      obtain ⟨g, gd⟩ := ok.glo h3
      obtain ⟨fa, fd, ps, m, kp, bd, F⟩ := ok.fns f y _ (of_decide_eq_true h1)
      have hes := sEsA es rs s (e :: ys) X W T h2 ok hT
      cases es with
      | nil => exact absurd h2 Bool.false_ne_true
      | cons c cs =>
        obtain ⟨n1, n2⟩ := and2 h2
        obtain ⟨_, n3⟩ := and2 n2
        exact DE.call F ok.room g m kp bd ok.tk gd (nsC_ok n1) (mEs_ns cs s ys n3) (mEs_len _ s _ h2) hes (evas_len _ rs) fun ρ as ρ' e1 j hj => hT j (List.mem_append_left _ (evas_lent _ rs e1 j hj))
    · exact absurd h Bool.false_ne_true
  | .bi b es, s, x, X, W, T, h, ok, hT => by
    simp only [mE] at h
    split at h
    · rename_i y p e ys p2 hb
      obtain ⟨h3, h2⟩ := and2 h
      have hes := sEsP es s (e :: ys) X W T h2 ok hT
      have bb := ok.nm h3 (biN_tab hb)
      cases es with
      | nil => exact absurd h2 Bool.false_ne_true
      | cons c cs =>
        obtain ⟨n1, n2⟩ := and2 h2
        obtain ⟨_, n3⟩ := and2 n2
        exact DE.bi hb ok.calm ok.units bb (nsC_ok n1) (mEs_ns cs s ys n3) hes
    · rename_i y p z p2 u p3 p4 hb
      obtain ⟨h1, h2⟩ := and2 h
      obtain ⟨h1, h3⟩ := and2 h1
      obtain ⟨h0, h1⟩ := and2 h1
      have b1 := ok.nm (u := .builtin "sorted") h1 (by simp [bltTab])
      have b2 := ok.nm (u := .type "set") h3 (by simp [bltTab])
      have e1 := nmC_eq h1
      have e2 := nmC_eq h3
      have e3 := of_decide_eq_true h0
      subst e1 e2 e3
      cases es with
      | nil => exact absurd h2 Bool.false_ne_true
      | cons c cs => exact DE.sortedSet ok.calm b1 b2 (nsC_ok (and2 h2).1) (sEsP (.cons c cs) s [u] X W T h2 ok hT)
    · exact absurd h Bool.false_ne_true
  | .isi a ts, s, x, X, W, T, h, ok, hT => by
    simp only [mE] at h
    split at h
    · rename_i y p e t p2 p3
      obtain ⟨h1, h2⟩ := and2 h
      obtain ⟨h1, h3⟩ := and2 h1
      obtain ⟨h1, h4⟩ := and2 h1
      have bi := ok.nm (u := .builtin "isinstance") h1 (by simp [bltTab])
      have ey := nmC_eq h1
      subst ey
      match ts, h2 with
      | [ty], h2 => exact DE.isi1 bi (ok.nm h2 (tyS_tab ty)) (nsC_ok h4) (sE a s e X W T h3 ok hT)
    · rename_i y p e es n p2 p3
      obtain ⟨h1, h2⟩ := and2 h
      obtain ⟨h1, h3⟩ := and2 h1
      obtain ⟨h1, h4⟩ := and2 h1
      obtain ⟨h2, h5⟩ := and2 h2
      have bi := ok.nm (u := .builtin "isinstance") h1 (by simp [bltTab])
      have ey := nmC_eq h1
      subst ey
      exact DE.isiT bi (tysC_ok ok h2) (of_decide_eq_true h5) (nsC_ok h4) (sE a s e X W T h3 ok hT)
    · exact absurd h Bool.false_ne_true
  | .lstI it, s, x, X, W, T, h, ok, hT => by
    simp only [mE] at h
    split at h
    · rename_i y p r p2
      obtain ⟨h1, h2⟩ := and2 h
      have b1 := ok.nm (u := .type "list") h1 (by simp [bltTab])
      have e1 := nmC_eq h1
      subst e1
      cases it with
      | rng1 e =>
        simp only [mR] at h2
        split at h2
        · rename_i z p3 y2 p4
          obtain ⟨h2, h3⟩ := and2 h2
          obtain ⟨h2, h4⟩ := and2 h2
          have b2 := ok.nm (u := .type "range") h2 (by simp [bltTab])
          have e2 := nmC_eq h2
          subst e2
          exact DE.lstR1 ok.calm b1 b2 (nsC_ok h4) (sE e s y2 X W T h3 ok hT)
        · exact absurd h2 Bool.false_ne_true
      | rng2 e f =>
        simp only [mR] at h2
        split at h2
        · rename_i z p3 y2 u2 p4
          obtain ⟨h2, h3⟩ := and2 h2
          obtain ⟨h2, h4⟩ := and2 h2
          obtain ⟨h2, h5⟩ := and2 h2
          obtain ⟨h3, h6⟩ := and2 h3
          have b2 := ok.nm (u := .type "range") h2 (by simp [bltTab])
          have e2 := nmC_eq h2
          subst e2
          exact DE.lstR2 ok.calm b1 b2 (nsC_ok h5) (nsC_ok h4) (sE e s y2 X W T h3 ok (app_l hT)) (sE f s u2 X W T h6 ok (app_r hT))
        · exact absurd h2 Bool.false_ne_true
      | _ => exact absurd h2 Bool.false_ne_true
    · exact absurd h Bool.false_ne_true
  | .tupI it, s, x, X, W, T, h, ok, hT => by
    simp only [mE] at h
    split at h
    · rename_i y p r p2
      obtain ⟨h1, h2⟩ := and2 h
      have b1 := ok.nm (u := .type "tuple") h1 (by simp [bltTab])
      have e1 := nmC_eq h1
      subst e1
      cases it with
      | rng1 e =>
        simp only [mR] at h2
        split at h2
        · rename_i z p3 y2 p4
          obtain ⟨h2, h3⟩ := and2 h2
          obtain ⟨h2, h4⟩ := and2 h2
          have b2 := ok.nm (u := .type "range") h2 (by simp [bltTab])
          have e2 := nmC_eq h2
          subst e2
          exact DE.tupR1 ok.calm b1 b2 (nsC_ok h4) (sE e s y2 X W T h3 ok hT)
        · exact absurd h2 Bool.false_ne_true
      | rng2 e f =>
        simp only [mR] at h2
        split at h2
        · rename_i z p3 y2 u2 p4
          obtain ⟨h2, h3⟩ := and2 h2
          obtain ⟨h2, h4⟩ := and2 h2
          obtain ⟨h2, h5⟩ := and2 h2
          obtain ⟨h3, h6⟩ := and2 h3
          have b2 := ok.nm (u := .type "range") h2 (by simp [bltTab])
          have e2 := nmC_eq h2
          subst e2
          exact DE.tupR2 ok.calm b1 b2 (nsC_ok h5) (nsC_ok h4) (sE e s y2 X W T h3 ok (app_l hT)) (sE f s u2 X W T h6 ok (app_r hT))
        · exact absurd h2 Bool.false_ne_true
      | _ => exact absurd h2 Bool.false_ne_true
    · exact absurd h Bool.false_ne_true
  | .comp elt own tg it c, s, x, X, W, T, h, ok, hT => by
    simp only [mE] at h
    split at h
    · rename_i x t i ifs scope p
      obtain ⟨h1, h2⟩ := and2 h
      obtain ⟨h1, h3⟩ := and2 h1
      obtain ⟨h1, h4⟩ := and2 h1
      obtain ⟨h1, h5⟩ := and2 h1
      obtain ⟨h1, h6⟩ := and2 h1
      obtain ⟨h2, h7⟩ := and2 h2
      obtain ⟨h7, h8⟩ := and2 h7
      have kf := of_decide_eq_true h3
      have eo : (own.map fun j : Nat => ((N[j]?).getD "", j)).map (·.2) = own := by
        rw [List.map_map]
        exact List.map_id' own
      have bk : ∀ (sh : Shared) (H : Hp) (C : Addr) (cl : List (Str × Addr)) (fp : List Addr), XOk cad φ k tb N (s.blk scope) W0 (X.blk sh H scope (compEnvC scope cl C X.env) fp) := fun sh H C cl fp => ok.blk scope kf sh H C cl fp
      have bok : BlkOk X.N X.env.scope scope (own.map fun j : Nat => ((N[j]?).getD "", j)) := by
        rw [ok.hN, ok.sc]
        exact blkOk_by h1
      have hns : ∀ j, j ∈ namesT tg → j ∈ (own.map fun j : Nat => ((N[j]?).getD "", j)).map (·.2) := fun j hj => by
        rw [eo]
        have := List.all_eq_true.mp h6 j hj
        simpa using this
      have hT1 := app_l hT
      have hT2 := app_r hT
      have hc : MOk T (tst φ c) ∧ ∀ (sh : Shared) (H : Hp) (C : Addr) (cl : List (Str × Addr)) (fp : List Addr), PTs (X.blk sh H scope (compEnvC scope cl C X.env) fp) ifs (tW X.K cad W0 T (tst φ c) PB) := by
        split at h7
        · split at h7
          · exact ⟨.ret, fun sh H C cl fp => ⟨fun pins s σ H Q I ⟨H₀, B, Z, ρ, q⟩ => pts_nil.run pins s σ H Q I q.retB⟩⟩
          · exact absurd h7 Bool.false_ne_true
        · rename_i kk hk2
          have q := fun sh H C cl fp => sT c (s.blk scope) kk _ W0 T h7 (bk sh H C cl fp) (app_l hT2)
          exact ⟨(q X.s_0 X.H_0 0 [] []).1, fun sh H C cl fp => pts_one (q sh H C cl fp).2.1⟩
        · exact absurd h7 Bool.false_ne_true
      have he := fun sh H C cl fp => sE elt (s.blk scope) x _ W0 T h8 (bk sh H C cl fp) (app_r hT2)
      have r := DE.comp (pos := p) ok.calm (by rw [ok.hN]; exact ok.nd) bok hns (notSet_for h4) (sI it s t i X W T h2 ok hT1) (fun sh H C cl fp => mG_ok (bk sh H C cl fp) tg t h5) hc.1 hc.2 (he X.s_0 X.H_0 0 [] []).1 fun sh H C cl fp => (he sh H C cl fp).2
      rw [eo] at r
      exact r
    · exact absurd h Bool.false_ne_true
  | .app i e, s, x, X, W, T, h, ok, hT => by
    simp only [mE] at h
    split at h
    · rename_i y p m ap z cp
      obtain ⟨h1, h2⟩ := and2 h
      obtain ⟨h1, h3⟩ := and2 h1
      obtain ⟨h1, h4⟩ := and2 h1
      obtain ⟨h1, h5⟩ := and2 h1
      have em := of_decide_eq_true h1
      subst em
      obtain ⟨v1, v2, v3, v4⟩ := ok.vis h5
      exact DE.app (hT i (List.mem_cons_self ..)) v1 v2 v3 v4 (nsC_ok h3) h4 (sE e s z X W T h2 ok fun j hj => hT j (List.mem_cons_of_mem _ hj))
    · exact absurd h Bool.false_ne_true
  | .ext i e, s, x, X, W, T, h, ok, hT => by
    simp only [mE] at h
    split at h
    · rename_i y p m ap z cp
      obtain ⟨h1, h2⟩ := and2 h
      obtain ⟨h1, h3⟩ := and2 h1
      obtain ⟨h1, h4⟩ := and2 h1
      obtain ⟨h1, h5⟩ := and2 h1
      have em := of_decide_eq_true h1
      subst em
      obtain ⟨v1, v2, v3, v4⟩ := ok.vis h5
      exact DE.ext (hT i (List.mem_cons_self ..)) v1 v2 v3 v4 (nsC_ok h3) h4 (sE e s z X W T h2 ok fun j hj => hT j (List.mem_cons_of_mem _ hj))
    · exact absurd h Bool.false_ne_true
  | .pop i o, s, x, X, W, T, h, ok, hT => by
    simp only [mE] at h
    split at h
    · rename_i y p m ap ys cp
      obtain ⟨h1, h2⟩ := and2 h
      obtain ⟨h1, h4⟩ := and2 h1
      obtain ⟨h1, h5⟩ := and2 h1
      have em := of_decide_eq_true h1
      subst em
      obtain ⟨v1, v2, v3, v4⟩ := ok.vis h5
      have hi := hT i (List.mem_cons_self ..)
      split at h2
      · cases o with
        | none => exact DE.pop0 hi v1 v2 v3 v4 h4
        | some e => exact absurd h2 Bool.false_ne_true
      · rename_i z
        obtain ⟨g2, g3⟩ := and2 h2
        cases o with
        | none => exact absurd g3 Bool.false_ne_true
        | some e => exact DE.popA hi v1 v2 v3 v4 (nsC_ok g2) h4 (sE e s z X W T g3 ok fun j hj => hT j (List.mem_cons_of_mem _ hj))
      · exact absurd h2 Bool.false_ne_true
    · exact absurd h Bool.false_ne_true
  | .thaw is e, s, x, X, W, T, h, ok, hT => by
    obtain ⟨h1, h2⟩ := and2 h
    exact DE.thaw (sE e s x X W [] h2 ok fun i hi => by rw [List.isEmpty_iff.mp h1] at hi; exact hi)
theorem sEsF : ∀ (es : CEs) (s : Sc) (xs : List Expr) (X : Cx) (W : WX) (T : List Nat), mEs N tb es s xs = true → XOk cad φ k tb N s W X → (∀ i ∈ mutEs es, i ∈ T) → DA X cad W T xs (evs φ es) (fun _ _ Z ρ σ H vs ds => RpL X.K (OO Z ρ σ) H vs ds)
  | .nil, s, xs, X, W, T, h, ok, hT => by
    cases xs with
    | nil => exact DA.nilF
    | cons _ _ => exact absurd h Bool.false_ne_true
  | .cons e es, s, xs, X, W, T, h, ok, hT => by
    cases xs with
    | nil => exact absurd h Bool.false_ne_true
    | cons x xs =>
      obtain ⟨h1, h2⟩ := and2 h
      obtain ⟨h2, h3⟩ := and2 h2
      exact DA.consF (nsC_ok h1) (sE e s x X W T h2 ok (app_l hT)) (sEsF es s xs X W T h3 ok (app_r hT))
theorem sEsP : ∀ (es : CEs) (s : Sc) (xs : List Expr) (X : Cx) (W : WX) (T : List Nat), mEs N tb es s xs = true → XOk cad φ k tb N s W X → (∀ i ∈ mutEs es, i ∈ T) → DA X cad W T xs (evps φ es) (fun H₀ _ Z ρ σ H vs xs => RVs X.K H₀ (OO Z ρ σ) ρ σ H vs xs)
  | .nil, s, xs, X, W, T, h, ok, hT => by
    cases xs with
    | nil => exact DA.nilP
    | cons _ _ => exact absurd h Bool.false_ne_true
  | .cons e es, s, xs, X, W, T, h, ok, hT => by
    cases xs with
    | nil => exact absurd h Bool.false_ne_true
    | cons x xs =>
      obtain ⟨h1, h2⟩ := and2 h
      obtain ⟨h2, h3⟩ := and2 h2
      exact DA.consP (nsC_ok h1) (sE e s x X W T h2 ok (app_l hT)) (sEsP es s xs X W T h3 ok (app_r hT))
theorem sEsA : ∀ (es : CEs) (rs : List Bool) (s : Sc) (xs : List Expr) (X : Cx) (W : WX) (T : List Nat), mEs N tb es s xs = true → XOk cad φ k tb N s W X → (∀ i ∈ lentE es rs ++ mutEs es, i ∈ T) → DA X cad W T xs (evas φ es rs) (fun _ _ Z ρ σ H vs as => PArs X.K (OO Z ρ σ) σ H vs as)
  | .nil, rs, s, xs, X, W, T, h, ok, hT => by
    cases xs with
    | nil => exact DA.nilA
    | cons _ _ => exact absurd h Bool.false_ne_true
  | .cons e es, rs, s, xs, X, W, T, h, ok, hT => by
    cases xs with
    | nil => exact absurd h Bool.false_ne_true
    | cons x xs =>
      obtain ⟨h1, h2⟩ := and2 h
      obtain ⟨h2, h3⟩ := and2 h2
      have he := sE e s x X W T h2 ok (app_l (app_r hT))
      have gen : (∀ i ∈ lentE es rs.tail, i ∈ T) → DA X cad W T (x :: xs) ((ev φ e).bind fun x => (freeze x).bind fun d => (evas φ es rs.tail).bind fun as => M.ret (AR.val d :: as)) (fun _ _ Z ρ σ H vs as => PArs X.K (OO Z ρ σ) σ H vs as) := fun hl =>
        DA.consA (nsC_ok h1) he (sEsA es rs.tail s xs X W T h3 ok fun i hi => (List.mem_append.mp hi).elim (hl i) fun q => hT i (List.mem_append_right _ (List.mem_append_right _ q)))
      have nil : (∀ i ∈ lentE es [], i ∈ T) := fun i hi => by
        rw [lentE_nil] at hi
        exact absurd hi List.not_mem_nil
      cases e with
      | var i =>
        cases rs with
        | nil => exact gen nil
        | cons r rs =>
          cases r with
          | false => exact gen fun i hi => hT i (List.mem_append_left _ hi)
          | true =>
            cases x with
            | Name y p =>
              obtain ⟨v1, v2, v3, v4⟩ := ok.vis (i := i) (x := y) h2
              exact DA.consR v1 v2 v3 v4 (sEsA es rs s xs X W T h3 ok fun j hj => (List.mem_append.mp hj).elim (fun q => hT j (List.mem_append_left _ (List.mem_cons_of_mem _ q))) fun q => hT j (List.mem_append_right _ (List.mem_append_right _ q)))
            | _ => exact absurd h2 Bool.false_ne_true
      | _ =>
        cases rs with
        | nil => exact gen nil
        | cons r rs => exact gen fun i hi => hT i (List.mem_append_left _ hi)
theorem sO : ∀ (o : CEo) (s : Sc) (x : Option Expr) (X : Cx) (W : WX) (T : List Nat), mO N tb o s x = true → XOk cad φ k tb N s W X → (∀ i ∈ mutO o, i ∈ T) → DO X cad W T x (evo φ o)
  | .none, s, x, X, W, T, h, ok, hT => by
    cases x with
    | none => exact DO.none
    | some _ => exact absurd h Bool.false_ne_true
  | .some e, s, x, X, W, T, h, ok, hT => by
    cases x with
    | none => exact absurd h Bool.false_ne_true
    | some x => exact DO.some (sE e s x X W T h ok hT)
theorem sT : ∀ (t : CT) (s : Sc) (x : Expr) (X : Cx) (W : WX) (T : List Nat), mT N tb t s x = true → XOk cad φ k tb N s W X → (∀ i ∈ mutT t, i ∈ T) → DT X cad W T x (tst φ t)
  | .yes, s, x, X, W, T, h, ok, hT => absurd h Bool.false_ne_true
  | .val e, s, x, X, W, T, h, ok, hT => by
    have gen : (plC x && mE N tb e s x) = true → DT X cad W T x (vT (ev φ e)) := fun h => by
      obtain ⟨h1, h2⟩ := and2 h
      obtain ⟨p1, p2⟩ := plC_ok (env := X.env) h1
      exact DT.val p1 p2 (sE e s x X W T h2 ok hT)
    cases e with
    | cmp o a b =>
      simp only [mT] at h
      split at h
      · rename_i x op y p
        obtain ⟨h1, h2⟩ := and2 h
        obtain ⟨h1, h4⟩ := and2 h1
        obtain ⟨h2, h3⟩ := and2 h2
        have := of_decide_eq_true h1
        subst this
        exact DT.cmp ok.units (notSet_in h4) (sE a s x X W T h2 ok (app_l hT)) (sE b s y X W T h3 ok (app_r hT))
      · exact absurd h Bool.false_ne_true
    | cmp2 o1 o2 a b c =>
      simp only [mT] at h
      split at h
      · rename_i x op1 op2 y z p
        obtain ⟨h1, h2⟩ := and2 h
        obtain ⟨h1, h4⟩ := and2 h1
        obtain ⟨h1, h5⟩ := and2 h1
        obtain ⟨h2, h3⟩ := and2 h2
        obtain ⟨h3, h6⟩ := and2 h3
        have e1 := of_decide_eq_true h1
        have e2 := of_decide_eq_true h5
        subst e1 e2
        exact DT.cmp2 ok.units (notSet_last h4) (sE a s x X W T h2 ok (app_l hT)) (sE b s y X W T h3 ok (app_l (app_r hT))) (sE c s z X W T h6 ok (app_r (app_r hT)))
      · exact absurd h Bool.false_ne_true
    | _ => exact gen h
  | .not t, s, x, X, W, T, h, ok, hT => by
    cases x with
    | UnaryOp op x p =>
      cases op with
      | Not => exact DT.not (sT t s x X W T h ok hT)
      | _ => exact absurd h Bool.false_ne_true
    | _ => exact absurd h Bool.false_ne_true
  | .and a b, s, x, X, W, T, h, ok, hT => by
    simp only [mT] at h
    split at h
    · rename_i x y r p
      obtain ⟨h1, h2⟩ := and2 h
      have ha := sT a s x X W T h1 ok (app_l hT)
      cases r with
      | nil => exact (DW.and ha (DW.one (sT b s y X W T h2 ok (app_r hT)))).dt
      | cons z r => exact (DW.and ha (sT b s _ X W T h2 ok (app_r hT)).dw).dt
    · exact absurd h Bool.false_ne_true
  | .or a b, s, x, X, W, T, h, ok, hT => by
    simp only [mT] at h
    split at h
    · rename_i x y r p
      obtain ⟨h1, h2⟩ := and2 h
      have ha := sT a s x X W T h1 ok (app_l hT)
      cases r with
      | nil => exact (DW.or ha (DW.one (sT b s y X W T h2 ok (app_r hT)))).dt
      | cons z r => exact (DW.or ha (sT b s _ X W T h2 ok (app_r hT)).dw).dt
    · exact absurd h Bool.false_ne_true
  | .ite _ _ _, s, x, X, W, T, h, ok, hT => absurd h Bool.false_ne_true
theorem sI : ∀ (it : CI) (s : Sc) (t x : Expr) (X : Cx) (W : WX) (T : List Nat), mI N tb it s t x = true → XOk cad φ k tb N s W X → (∀ i ∈ mutI it, i ∈ T) → DI X cad W T t x (evi φ it)
  | .seq e, s, t, x, X, W, T, h, ok, hT => DI.seq (sE e s x X W T h ok hT)
  | .rng1 e, s, t, x, X, W, T, h, ok, hT => by
    simp only [mI] at h
    split at h
    · rename_i z p y p2
      obtain ⟨h1, h2⟩ := and2 h
      obtain ⟨h1, h3⟩ := and2 h1
      have b := ok.nm (u := .type "range") h1 (by simp [bltTab])
      have e1 := nmC_eq h1
      subst e1
      exact DI.rng1 b (nsC_ok h3) (sE e s y X W T h2 ok hT)
    · exact absurd h Bool.false_ne_true
  | .rng2 e f, s, t, x, X, W, T, h, ok, hT => by
    simp only [mI] at h
    split at h
    · rename_i z p y u p2
      obtain ⟨h1, h2⟩ := and2 h
      obtain ⟨h1, h3⟩ := and2 h1
      obtain ⟨h1, h4⟩ := and2 h1
      obtain ⟨h2, h5⟩ := and2 h2
      have b := ok.nm (u := .type "range") h1 (by simp [bltTab])
      have e1 := nmC_eq h1
      subst e1
      exact DI.rng2 b (nsC_ok h4) (nsC_ok h3) (sE e s y X W T h2 ok (app_l hT)) (sE f s u X W T h5 ok (app_r hT))
    · exact absurd h Bool.false_ne_true
  | .enum e, s, t, x, X, W, T, h, ok, hT => by
    simp only [mI] at h
    split at h
    · rename_i z p y p2
      obtain ⟨h1, h2⟩ := and2 h
      obtain ⟨h1, h3⟩ := and2 h1
      obtain ⟨h1, h4⟩ := and2 h1
      have b := ok.nm (u := .type "enumerate") h4 (by simp [bltTab])
      have e1 := nmC_eq h4
      subst e1
      cases t with
      | Tuple es n q => exact DI.enum b (nsC_ok h3) (sE e s y X W T h2 ok hT)
      | _ => exact absurd h1 Bool.false_ne_true
    · exact absurd h Bool.false_ne_true
  | .zip e f, s, t, x, X, W, T, h, ok, hT => by
    simp only [mI] at h
    split at h
    · rename_i z p y u p2
      obtain ⟨h1, h2⟩ := and2 h
      obtain ⟨h1, h3⟩ := and2 h1
      obtain ⟨h1, h4⟩ := and2 h1
      obtain ⟨h1, h5⟩ := and2 h1
      obtain ⟨h2, h6⟩ := and2 h2
      have b := ok.nm (u := .type "zip") h5 (by simp [bltTab])
      have e1 := nmC_eq h5
      subst e1
      cases t with
      | Tuple es n q => exact DI.zip b (nsC_ok h4) (nsC_ok h3) (sE e s y X W T h2 ok (app_l hT)) (sE f s u X W T h6 ok (app_r hT))
      | _ => exact absurd h1 Bool.false_ne_true
    · exact absurd h Bool.false_ne_true
end
end
end Gn

/-! Gn, part Q: the check of statements, and that it is sound. -/
namespace Gn
open PySem PySem.Spec
open L2 hiding Loc
open PyProof.Rows hiding St

def notComp : Expr → Bool
  | .ListComp .. => false
  | .SetComp .. => false
  | .DictComp .. => false
  | _ => true
theorem notComp_sw {env : PySem.Env} {t : Option Expr} {l : Nat} : ∀ {e : Expr}, notComp e = true → swapsWith e t l env = pure false := fun {e} h => by
  cases e <;> first | exact absurd h Bool.false_ne_true | rfl
theorem notComp_sole {env : PySem.Env} {t : Expr} {l : Nat} {e : Expr} (h : notComp e = true) : swapsWithSole [t] e l env = pure false := by
  show swapsWith e (some t) l env = pure false
  exact notComp_sw h
def notTupE : Expr → Bool
  | .Tuple .. => false
  | _ => true
theorem notTup_sw {env : PySem.Env} {es : List Expr} {n : Nat} {p : Pos} : ∀ {e : Expr}, notTupE e = true → swappedStores [.Tuple es n p] e env = pure none := fun {e} h => by
  cases e <;> first | exact absurd h Bool.false_ne_true | rfl
def swC (s : Sc) (x : Str) (p : Pos) (cscope : Scope) (cp : Pos) : Bool := s.sc.kind == .function && s.sc.names.lookup x == some .local && p.line == cp.line && !(cscope.names.any fun (n, k) => n == x && (k == .local || k == .cell))
theorem swC_ok {env : PySem.Env} {s : Sc} (he : env.scope = s.sc) {elt : Expr} {gs : List Comprehension} {scope : Scope} {cp p : Pos} {x : Str} {l : Nat} (h : swC s x p scope cp = true) : swapsWith (.ListComp elt gs scope cp) (some (.Name x p)) l env = pure true ∧ env.scope.names.lookup x = some .local := by
  simp only [swC, Bool.and_eq_true, beq_iff_eq] at h
  obtain ⟨⟨⟨h1, h2⟩, h3⟩, h4⟩ := h
  refine ⟨?_, by rw [he]; exact h2⟩
  have e : swapsWith (.ListComp elt gs scope cp) (some (.Name x p)) l env = pure (env.blockKind == .function && env.kindOf x == some .local && p.line == cp.line && !(scope.names.any fun (n, k) => n == x && (k == .local || k == .cell))) := rfl
  rw [e]
  have b1 : env.blockKind = .function := by
    unfold Env.blockKind
    rw [he, h1]; rfl
  have b2 : env.kindOf x = some .local := by
    unfold Env.kindOf
    rw [he]; exact h2
  rw [b1, b2, h3, h4]
  simp
def parC (s : Sc) (x y : Str) (px py : Pos) (a b : Expr) : Bool := s.sc.kind == .function && s.sc.names.lookup x == some .local && s.sc.names.lookup y == some .local && px.line == py.line && !(x == y) && !(foldedForSure 8 a && foldedForSure 8 b) && !(constantsAlone 8 a && constantsAlone 8 b) && nsC a && nsC b
theorem nsC_any : ∀ a : Expr, nsC a = true → (fun | .Starred .. => true | _ => false : Expr → Bool) a = false := fun a h => by
  cases a <;> first | exact absurd h Bool.false_ne_true | rfl
theorem dedup2 {x y : Str} (h : x ≠ y) : [x, y].eraseDups = [x, y] := by
  have hb : (y == x) = false := by
    rw [beq_eq_false_iff_ne]; exact fun e => h e.symm
  rw [List.eraseDups_cons]
  simp [hb, List.eraseDups_cons]
theorem parC_ok {env : PySem.Env} {s : Sc} (he : env.scope = s.sc) {x y : Str} {px py pt pt2 : Pos} {n n2 : Nat} {a b : Expr} (h : parC s x y px py a b = true) : swappedStores [.Tuple [.Name x px, .Name y py] n pt] (.Tuple [a, b] n2 pt2) env = pure (some [x, y]) := by
  simp only [parC, Bool.and_eq_true, beq_iff_eq, Bool.not_eq_true'] at h
  obtain ⟨⟨⟨⟨⟨⟨⟨⟨h1, h2⟩, h3⟩, h4⟩, h5⟩, h6⟩, h7⟩, h8⟩, h9⟩ := h
  have b1 : env.blockKind = .function := by
    unfold Env.blockKind
    rw [he, h1]; rfl
  have b2 : env.kindOf x = some .local := by
    unfold Env.kindOf
    rw [he]; exact h2
  have b3 : env.kindOf y = some .local := by
    unfold Env.kindOf
    rw [he]; exact h3
  have hxy : x ≠ y := by
    intro e
    subst e
    simp at h5
  have f1 : ([a, b].all (foldedForSure 8)) = false := by
    simp only [List.all_cons, List.all_nil, Bool.and_true]; exact h6
  have f2 : ([a, b].all (constantsAlone 8)) = false := by
    simp only [List.all_cons, List.all_nil, Bool.and_true]; exact h7
  have f3 : ([a, b].any (fun | .Starred .. => true | _ => false : Expr → Bool)) = false := Bool.or_eq_false_iff.mpr ⟨nsC_any a h8, Bool.or_eq_false_iff.mpr ⟨nsC_any b h9, rfl⟩⟩
  have d := dedup2 hxy
  have p0 : (Expr.Name x px).pos = px := rfl
  have f4 : ([Expr.Name x px, Expr.Name y py].filterMap fun
    | .Name id pos => if env.kindOf id == some .local && pos.line == px.line then some id else none
    | _ => none) = [x, y] := by
    simp [List.filterMap_cons, b2, b3, h4]
  have key : ∀ (g1 g2 : Bool) (nm : List Str) (k : Bool), nm = [x, y] → g1 = false → g2 = false → k = false → ((do
    if k then return none
    if nm.length != 2 || nm.eraseDups.length != nm.length then return none
    if g1 then return none
    if g2 then unsupported "assign.tuple-of-constant-expressions:order-of-the-stores"
    return some nm : Sem (Option (List Str)))) = pure (some [x, y]) := by
    intro g1 g2 nm k hn e1 e2 e3
    subst hn; subst e1; subst e2; subst e3
    rw [d]
    rfl
  refine Eq.trans ?_ (key _ _ _ _ f4 f1 f2 f3)
  unfold swappedStores
  rw [b1]
  rfl

/-- the stores of a tuple's names in no other order -/
def noSwap (s : Sc) : List Expr → Expr → Bool
  | [.Name x _, .Name y _], .Tuple [_, _] _ _ => !(s.sc.names.lookup x == some .local && s.sc.names.lookup y == some .local)
  | _, v => notTupE v
theorem noSwap_ok {env : PySem.Env} {s : Sc} (he : env.scope = s.sc) {xs : List Expr} {v : Expr} {n : Nat} {p : Pos} (h : noSwap s xs v = true) : swappedStores [.Tuple xs n p] v env = pure none := by
  unfold noSwap at h
  split at h
  · rename_i x px y py a b n2 p2
    have key : ∀ (c1 c2 g1 g2 : Bool) (nm : List Str), nm.length ≠ 2 → ((do
      if c1 then return none
      if c2 then return none
      if nm.length != 2 || nm.eraseDups.length != nm.length then return none
      if g1 then return none
      if g2 then unsupported "assign.tuple-of-constant-expressions:order-of-the-stores"
      return some nm : Sem (Option (List Str)))) = pure none := by
      intro c1 c2 g1 g2 nm hn
      have hb : (nm.length != 2) = true := by simpa using hn
      rw [hb]
      cases c1 <;> cases c2 <;> rfl
    have kx : env.kindOf x = s.sc.names.lookup x := by
      unfold Env.kindOf
      rw [he]
    have ky : env.kindOf y = s.sc.names.lookup y := by
      unfold Env.kindOf
      rw [he]
    have hl : ([Expr.Name x px, Expr.Name y py].filterMap fun
      | .Name id pos => if env.kindOf id == some .local && pos.line == px.line then some id else none
      | _ => none).length ≠ 2 := by
      simp only [Bool.not_eq_true', Bool.and_eq_false_iff] at h
      rcases h with h | h
      · rw [List.filterMap_cons]
        simp only [kx, h, Bool.false_and, Bool.false_eq_true, if_false]
        intro e
        have := List.length_filterMap_le (fun
          | Expr.Name id pos => if env.kindOf id == some .local && pos.line == px.line then some id else none
          | _ => none) [Expr.Name y py]
        rw [e] at this
        exact absurd this (by simp)
      · rw [List.filterMap_cons, List.filterMap_cons]
        simp only [ky, h, Bool.false_and, Bool.false_eq_true, if_false, List.filterMap_nil]
        split <;> simp
    refine Eq.trans ?_ (key (!(2 == 2 || 2 == 3) || 2 != 2 || env.blockKind != .function) ([a, b].any fun | .Starred .. => true | _ => false) ([a, b].all (foldedForSure 8)) ([a, b].all (constantsAlone 8)) _ hl)
    rfl
  · exact notTup_sw h
theorem swN_ok {env : PySem.Env} {s : Sc} (he : env.scope = s.sc) {elt : Expr} {gs : List Comprehension} {scope : Scope} {cp p : Pos} {x : Str} {l : Nat} (h : (s.sc.names.lookup x == some .local) = false) : swapsWith (.ListComp elt gs scope cp) (some (.Name x p)) l env = pure false := by
  have e : swapsWith (.ListComp elt gs scope cp) (some (.Name x p)) l env = pure (env.blockKind == .function && env.kindOf x == some .local && p.line == cp.line && !(scope.names.any fun (n, k) => n == x && (k == .local || k == .cell))) := rfl
  have k : env.kindOf x = s.sc.names.lookup x := by
    unfold Env.kindOf
    rw [he]
  rw [e, k, h]
  simp
/-- x[ix] = .. : no slice -/
theorem nsl_assign {env : PySem.Env} {x : Str} {p2 p3 : Pos} : ∀ {ix : Expr}, nslC ix = true → ∀ v, assign (.Subscript (.Name x p2) ix p3) env v = (do
      let ov ← holding [v] (eval (.Name x p2) env)
      let iv ← holding [v, ov] (eval ix env)
      standAt p3
      holding [v, ov, iv] (setItem ov iv v)
      release [v, ov, iv] []) := fun {ix} h v => by
  cases ix <;> first | exact absurd h Bool.false_ne_true | rfl
/-- an item of a clause's list -/
def mSu (N : List Str) (tb : Tb) (s : Sc) (i : Nat) (n : Str) (k : Nat) : Expr → Kc → Bool
  | .Constant .none _ _, .none => true
  | .Constant (.bool b) _ _, .bool c => b == c
  | .Constant (.int b) _ _, .int c => decide (b = c)
  | .Constant (.str b) _ _, .str c => decide (b = c)
  | .Call (.Name z _) [.Name m _, .Name y _] [] _, .bool b => decide (z = "isinstance") && nmC s "isinstance" z && decide (m = n) && visC N s i n && gloC s y && decide (tb.cnm[tb.cnm.idxOf y]? = some y) && (b == (k == tb.cnm.idxOf y))
  | _, _ => false
def mSus (N : List Str) (tb : Tb) (s : Sc) (i : Nat) (n : Str) (k : Nat) : List Expr → List Kc → Bool
  | [], [] => true
  | e :: es, c :: cs => mSu N tb s i n k e c && mSus N tb s i n k es cs
  | _, _ => false
def mH (N : List Str) (tb : Tb) (s : Sc) : List ExceptHandler → List (Nat × Hr) → Bool
  | [], [] => true
  | .ExceptHandler (some (.Name x _)) (some n) [.Return (some (.List es _)) _] _ :: hds, (k, .lst cs) :: hs =>
    decide (tb.cnm[k]? = some x) && gloC s x && (s.sc.names.lookup n == some .local) && decide (N[N.idxOf n]? = some n) && mSus N tb s (N.idxOf n) n k es cs && cs.all kcOk && decide (cs.length ≤ 1000) && mH N tb s hds hs
  | _, _ => false
/-- what a def's body needs beside -/
structure YOk (cad : Nat → Option Addr) (φ : Fns) (k : Nat) (tb : Tb) (N : List Str) (s : Sc) (W : WX) (X : Cx) : Prop extends XOk cad φ k tb N s W X where
  hst : X.stack = X.env :: X.outer
  hfr : X.env.frame = some X.env.locals
  po : PassesOwn (model X.prog X.w) X.A X.env X.xe
  cls : ∀ (c : Nat) (x : Str), tb.cnm[c]? = some x → ∃ ca, cad c = some ca ∧ X.mg x = some (.ref ca) ∧ PySem.W.keepIn X.K (.ref ca) = true
  exf : ∃ (Bn newId initId : String) (bmB : List Value), ExcBaseFacts Bn newId initId bmB ∧ ∀ c a, cad c = some a → PySem.W.excIn X.K a bmB newId = true
  rz : ∀ c a, cad c = some a → Raises X (.ref a) ∧ ExcC X.K a
  exm : ∀ c k a b, cad c = some a → cad k = some b → PySem.W.exmOne X.K (.ref a) (.ref b) = some (c == k)
  isa : ∀ c k a b, cad c = some a → cad k = some b → PySem.W.kitOne X.K (.ref a) (.ref b) = some (c == k)
section
variable {cad : Nat → Option Addr} {φ : Fns} {k : Nat} {tb : Tb} {N : List Str} {s : Sc} {W : WX} {X : Cx}
theorem YOk.tr (h : YOk cad φ k tb N s W X) {V : WX} {pn : List (Addr × Obj)} {xe : Value → Shared → Prop} (tk : Takes (X.tr pn xe) V) (po : PassesOwn (model X.prog X.w) X.A X.env xe) : YOk cad φ k tb N s V (X.tr pn xe) where
  hN := h.hN
  nd := h.nd
  sc := h.sc
  fn := h.fn
  fk := h.fk
  calm := h.calm
  room := h.room
  tk := tk
  blt := h.blt
  fns := h.fns
  hst := h.hst
  hfr := h.hfr
  po := po
  cls := h.cls
  exf := h.exf
  rz := h.rz
  exm := h.exm
  isa := h.isa
theorem YOk.exF (h : YOk cad φ k tb N s W X) {c : Nat} {x : Str} (e : tb.cnm[c]? = some x) (g : gloC s x = true) : ∃ ca, ExcF X cad c ca x ∧ PySem.W.keepIn X.K (.ref ca) = true := by
  obtain ⟨ca, e1, e2, e3⟩ := h.cls c x e
  obtain ⟨g1, g2⟩ := h.toXOk.glo g
  exact ⟨ca, ⟨e1, g1, e2, g2⟩, e3⟩
theorem mSu_ok (h : YOk cad φ k tb N s W X) {i : Nat} {n : Str} {c : Nat} {ca : Addr} (ec : cad c = some ca) : ∀ {e : Expr} {q : Kc}, mSu N tb s i n c e q = true → SuE X cad i ca e q := fun {e q} m => by
  unfold mSu at m
  split at m
  · exact .none
  · have := eq_of_beq m
    subst this
    exact .bool
  · have := of_decide_eq_true m
    subst this
    exact .int
  · have := of_decide_eq_true m
    subst this
    exact .str
  · simp only [Bool.and_eq_true, decide_eq_true_eq] at m
    obtain ⟨⟨⟨⟨⟨⟨m1, m2⟩, m3⟩, m4⟩, m5⟩, m6⟩, m7⟩ := m
    subst m1 m3
    obtain ⟨v1, v2, v3, v4⟩ := h.toXOk.vis m4
    obtain ⟨ma, E, _⟩ := h.exF m6 m5
    have := eq_of_beq m7
    subst this
    exact .isa v1 v2 v3 v4 (h.toXOk.nm m2 (by simp [bltTab])) E (h.rz c ca ec).2 (h.isa _ _ _ _ ec E.ad)
  · exact absurd m Bool.false_ne_true
theorem mSus_ok (h : YOk cad φ k tb N s W X) {i : Nat} {n : Str} {c : Nat} {ca : Addr} (ec : cad c = some ca) : ∀ {es : List Expr} {qs : List Kc}, mSus N tb s i n c es qs = true → SuEs X cad i ca es qs
  | [], [], _ => .nil
  | e :: es, q :: qs, m => by
    obtain ⟨m1, m2⟩ := and2 m
    exact .cons (mSu_ok h ec m1) (mSus_ok h ec m2)
  | [], _ :: _, m => absurd m Bool.false_ne_true
  | _ :: _, [], m => absurd m Bool.false_ne_true
theorem mH_ok (h : YOk cad φ k tb N s W X) : ∀ (hds : List ExceptHandler) (hs : List (Nat × Hr)), mH N tb s hds hs = true → TryCl X cad hds hs ∧ hs.all (fun h => match h.2 with | .lst cs => cs.all kcOk | .none => false) = true := fun hds hs m => by
  induction hds generalizing hs with
  | nil =>
    cases hs with
    | nil => exact ⟨.nil, rfl⟩
    | cons _ _ => exact absurd m Bool.false_ne_true
  | cons hd hds ih =>
    unfold mH at m
    split at m
    · rename_i heq
      cases heq
    · rename_i x xp n es p2 p3 p' hds' k' cs hs' heq
      cases heq
      simp only [Bool.and_eq_true, decide_eq_true_eq, beq_iff_eq] at m
      obtain ⟨⟨⟨⟨⟨⟨⟨m1, m2⟩, m3⟩, m4⟩, m5⟩, m6⟩, m7⟩, m8⟩ := m
      obtain ⟨ca, E, kc⟩ := h.exF m1 m2
      obtain ⟨r1, r2⟩ := ih _ m8
      refine ⟨.cons E (by rw [h.hN]; exact m4) (by show X.env.scope.names.lookup n = _; rw [h.sc]; exact m3) (mSus_ok h E.ad m5) m6 m7 r1, ?_⟩
      simp only [List.all_cons, m6, Bool.true_and]
      exact r2
    · exact absurd m Bool.false_ne_true
end
mutual
def mS (N : List Str) (tb : Tb) : CS → Sc → Stmt → Bool
  | .asg t e, s, ast => (match t with
    | .name i => (match ast with
      | .Assign [.Name x px] v p => (match e, v with
        | .comp .., .ListComp _ [⟨_, _, _, 0⟩] cscope cp => (if s.sc.names.lookup x == some .local then decide (N[i]? = some x) && swC s x px cscope cp else locC N s i x) && mE N tb e s v
        | _, _ => notComp v && locC N s i x && mE N tb e s v)
      | _ => false)
    | t => (match ast with
      | .Assign [.Tuple xs n tp] v _ => notComp v && noSwap s xs v && mG N s t (.Tuple xs n tp) && mE N tb e s v
      | _ => false))
  | .par ts es, s, ast => (match ts, es, ast with
    | [.name i, .name j], .cons e (.cons f .nil), .Assign [.Tuple [.Name x px, .Name y py] _ _] (.Tuple [a, b] _ _) _ => decide (N[i]? = some x) && decide (N[j]? = some y) && decide (i ≠ j) && parC s x y px py a b && (mE N tb e s a && mE N tb f s b)
    | _, _, _ => false)
  | .setIx i ix e, s, ast => (match ast with
    | .Assign [.Subscript (.Name x _) y _] v _ => visC N s i x && nslC y && notComp v && (mE N tb e s v && mE N tb ix s y)
    | _ => false)
  | .aug i e, s, ast => (match ast with
    | .AugAssign (.Name x _) .Add v _ => locC N s i x && mE N tb e s v
    | _ => false)
  | .expr e, s, ast => (match ast with
    | .Expr v _ => notComp v && mE N tb e s v
    | _ => false)
  | .ret e, s, ast => (match ast with
    | .Return (some v) _ => mE N tb e s v
    | _ => false)
  | .retN, _, ast => (match ast with
    | .Return none _ => true
    | _ => false)
  | .ife c a b, s, ast => (match ast with
    | .If t x y _ => mT N tb c s t && (mSs N tb a s x && mSs N tb b s y)
    | _ => false)
  | .whl c b, s, ast => (match ast with
    | .While t x [] _ => mT N tb c s t && mSs N tb b s x
    | _ => false)
  | .for t it b, s, ast => (match ast with
    | .For tg i x [] _ => mG N s t tg && notSet i && (mI N tb it s tg i && mSs N tb b s x)
    | _ => false)
  | .rais c, s, ast => (match ast with
    | .Raise (some (.Call (.Name x _) [] [] _)) none _ => decide (tb.cnm[c]? = some x) && gloC s x
    | _ => false)
  | .try b hs, s, ast => (match ast with
    | .Try x (h0 :: hds) [] [] _ => mH N tb s (h0 :: hds) hs && mSs N tb b s x
    | _ => false)
  | .pass, _, ast => (match ast with
    | .Pass _ => true
    | _ => false)
  | .brk, _, ast => (match ast with
    | .Break _ => true
    | _ => false)
  | .cont, _, ast => (match ast with
    | .Continue _ => true
    | _ => false)
def mSs (N : List Str) (tb : Tb) : CSs → Sc → List Stmt → Bool
  | .nil, _, xs => xs.isEmpty
  | .cons c cs, s, xs => (match xs with
    | x :: xs => mS N tb c s x && mSs N tb cs s xs
    | [] => false)
end
end Gn

/-! Gn, part R: the check of statements is sound. -/
namespace Gn
open PySem PySem.Spec
open L2 hiding Loc
open PyProof.Rows hiding St

section
variable {cad : Nat → Option Addr} {φ : Fns} {k : Nat} {tb : Tb} {N : List Str} {s : Sc} {W : WX} {X : Cx}
theorem asg_comp (ok : XOk cad φ k tb N s W X) {i : Nat} {elt : CE} {own : List Nat} {tg : Tg} {it : CI} {c : CT} {y : Str} {py p : Pos} {x t iter : Expr} {ifs : List Expr} {scope : Scope} {cp : Pos}
    (hi : N[i]? = some y) (hw : swC s y py scope cp = true) (h : mE N tb (.comp elt own tg it c) s (.ListComp x [⟨t, iter, ifs, 0⟩] scope cp) = true) :
    DS X cad W (.Assign [.Name y py] (.ListComp x [⟨t, iter, ifs, 0⟩] scope cp) p) (exe φ (.asg (.name i) (.comp elt own tg it c))) := by
  simp only [mE] at h
  obtain ⟨h1, h2⟩ := and2 h
  obtain ⟨h1, h3⟩ := and2 h1
  obtain ⟨h1, h4⟩ := and2 h1
  obtain ⟨h1, h5⟩ := and2 h1
  obtain ⟨h1, h6⟩ := and2 h1
  obtain ⟨h2, h7⟩ := and2 h2
  obtain ⟨h7, h8⟩ := and2 h7
  have kf := of_decide_eq_true h3
  have eo : (own.map fun j : Nat => ((N[j]?).getD "", j)).map (·.2) = own := by
    rw [List.map_map]
    exact List.map_id' own
  have bk : ∀ (sh : Shared) (H : Hp) (C : Addr) (cl : List (Str × Addr)) (fp : List Addr), XOk cad φ k tb N (s.blk scope) W0 (X.blk sh H scope (compEnvC scope cl C X.env) fp) := fun sh H C cl fp => ok.blk scope kf sh H C cl fp
  have bok : BlkOk X.N X.env.scope scope (own.map fun j : Nat => ((N[j]?).getD "", j)) := by
    rw [ok.hN, ok.sc]
    exact blkOk_by h1
  have hns : ∀ j, j ∈ namesT tg → j ∈ (own.map fun j : Nat => ((N[j]?).getD "", j)).map (·.2) := fun j hj => by
    rw [eo]
    have := List.all_eq_true.mp h6 j hj
    simpa using this
  have hT : ∀ i ∈ mutI it ++ (mutT c ++ mutE elt), i ∈ mutI it ++ (mutT c ++ mutE elt) := fun i h => h
  have hT1 := app_l hT
  have hT2 := app_r hT
  have hc : MOk (mutI it ++ (mutT c ++ mutE elt)) (tst φ c) ∧ ∀ (sh : Shared) (H : Hp) (C : Addr) (cl : List (Str × Addr)) (fp : List Addr), PTs (X.blk sh H scope (compEnvC scope cl C X.env) fp) ifs (tW X.K cad W0 (mutI it ++ (mutT c ++ mutE elt)) (tst φ c) PB) := by
    split at h7
    · split at h7
      · exact ⟨.ret, fun sh H C cl fp => ⟨fun pins s σ H Q I ⟨H₀, B, Z, ρ, q⟩ => pts_nil.run pins s σ H Q I q.retB⟩⟩
      · exact absurd h7 Bool.false_ne_true
    · rename_i kk _
      have q := fun sh H C cl fp => sT c (s.blk scope) kk _ W0 (mutI it ++ (mutT c ++ mutE elt)) h7 (bk sh H C cl fp) (app_l hT2)
      exact ⟨(q X.s_0 X.H_0 0 [] []).1, fun sh H C cl fp => pts_one (q sh H C cl fp).2.1⟩
    · exact absurd h7 Bool.false_ne_true
  have he := fun sh H C cl fp => sE elt (s.blk scope) x _ W0 (mutI it ++ (mutT c ++ mutE elt)) h8 (bk sh H C cl fp) (app_r hT2)
  obtain ⟨w1, w2⟩ := swC_ok (env := X.env) (elt := x) (gs := [⟨t, iter, ifs, 0⟩]) (l := p.line) ok.sc hw
  have r := DS.asgC (pos := p) (py := py) (cpos := cp) ok.calm (by rw [ok.hN]; exact ok.nd) (by rw [ok.hN]; exact hi) w2 w1 bok hns (notSet_for h4) (sI it s t iter X W _ h2 ok hT1) (fun sh H C cl fp => mG_ok (bk sh H C cl fp) tg t h5) hc.1 hc.2 (he X.s_0 X.H_0 0 [] []).1 fun sh H C cl fp => (he sh H C cl fp).2
  rw [eo] at r
  exact r
theorem all_in (l : List Nat) : ∀ i ∈ l, i ∈ l := fun _ h => h
mutual
theorem sS : ∀ (c : CS) (s : Sc) (x : Stmt) (X : Cx) (W : WX), mS N tb c s x = true → YOk cad φ k tb N s W X → DS X cad W x (exe φ c)
  | .asg t e, s, x, X, W, h, ok => by
    unfold mS at h
    split at h
    · rename_i i
      split at h
      · rename_i y px v p
        split at h
        · rename_i x t iter ifs cscope cp
          obtain ⟨h1, h2⟩ := and2 h
          split at h1
          · obtain ⟨h1, h3⟩ := and2 h1
            exact asg_comp ok.toXOk (of_decide_eq_true h1) h3 h2
          · rename_i hk
            obtain ⟨q1, q2, q3⟩ := ok.toXOk.loc h1
            exact DS.asg (by rw [ok.hN]; exact ok.nd) q1 q2 q3 (swN_ok ok.sc (by simpa using hk)) (sE _ s _ X W _ h2 ok.toXOk (all_in _))
        · obtain ⟨h1, h2⟩ := and2 h
          obtain ⟨h1, h3⟩ := and2 h1
          obtain ⟨q1, q2, q3⟩ := ok.toXOk.loc h3
          exact DS.asg (by rw [ok.hN]; exact ok.nd) q1 q2 q3 (notComp_sw h1) (sE e s v X W _ h2 ok.toXOk (all_in _))
      · exact absurd h Bool.false_ne_true
    · rename_i ht
      split at h
      · rename_i xs n tp v p
        obtain ⟨h1, h2⟩ := and2 h
        obtain ⟨h1, h3⟩ := and2 h1
        obtain ⟨h1, h4⟩ := and2 h1
        exact DS.asgT (fun i e => ht i e) (mG_ok ok.toXOk t _ h3) (notComp_sole h1) (noSwap_ok ok.sc h4) (sE e s v X W _ h2 ok.toXOk (all_in _))
      · exact absurd h Bool.false_ne_true
  | .par ts es, s, x, X, W, h, ok => by
    unfold mS at h
    split at h
    · rename_i i j e f y px z py n tp a b n2 tp2 p
      simp only [Bool.and_eq_true, decide_eq_true_eq] at h
      obtain ⟨⟨⟨⟨h1, h2⟩, h3⟩, h4⟩, h5, h6⟩ := h
      have hp := h4
      simp only [parC, Bool.and_eq_true, beq_iff_eq] at h4
      obtain ⟨⟨⟨⟨⟨⟨⟨⟨_, k1⟩, k2⟩, _⟩, _⟩, _⟩, _⟩, k3⟩, k4⟩ := h4
      have hT : ∀ i ∈ mutE e ++ mutE f, i ∈ mutE e ++ mutE f := all_in _
      have r := DS.par (pos := p) ok.calm (by rw [ok.hN]; exact ok.nd) (by rw [ok.hN]; exact h1) (by rw [ok.hN]; exact h2) h3 (by rw [ok.sc]; exact k1) (by rw [ok.sc]; exact k2) (nsC_ok k3) (nsC_ok k4)
        (parC_ok (pt := tp) (pt2 := tp2) (n := n) (n2 := n2) ok.sc hp) (notComp_sole rfl) (sE e s a X W (mutE e ++ mutE f) h5 ok.toXOk (app_l hT)) (sE f s b X W (mutE e ++ mutE f) h6 ok.toXOk (app_r hT))
      have eq : exe φ (.par [.name i, .name j] (.cons e (.cons f .nil))) = ((ev φ e).bind settle).bind fun x => ((ev φ f).bind settle).bind fun y => (parM [.name i, .name j] [x, y]).bind fun _ => M.ret .next := by
        simp only [exe, evr, M.assoc, M.ret_bind]
      rw [eq]
      exact r
    · exact absurd h Bool.false_ne_true
  | .setIx i ix e, s, x, X, W, h, ok => by
    unfold mS at h
    split at h
    · rename_i y py z p3 v p
      obtain ⟨h1, h2⟩ := and2 h
      obtain ⟨h1, h3⟩ := and2 h1
      obtain ⟨h1, h4⟩ := and2 h1
      obtain ⟨h2, h5⟩ := and2 h2
      obtain ⟨v1, v2, v3, v4⟩ := ok.toXOk.vis h1
      have hT : ∀ i ∈ mutE e ++ mutE ix, i ∈ mutE e ++ mutE ix := all_in _
      exact DS.setIx v1 v2 v3 v4 (sE e s v X W (mutE e ++ mutE ix) h2 ok.toXOk (app_l hT)) (sE ix s z X W (mutE e ++ mutE ix) h5 ok.toXOk (app_r hT)) (notComp_sole h3) (nsl_assign h4)
    · exact absurd h Bool.false_ne_true
  | .aug i e, s, x, X, W, h, ok => by
    unfold mS at h
    split at h
    · rename_i y py v p
      obtain ⟨h1, h2⟩ := and2 h
      obtain ⟨q1, q2, q3⟩ := ok.toXOk.loc h1
      exact DS.aug (by rw [ok.hN]; exact ok.nd) q1 q2 q3 (sE e s v X W _ h2 ok.toXOk (all_in _))
    · exact absurd h Bool.false_ne_true
  | .expr e, s, x, X, W, h, ok => by
    unfold mS at h
    split at h
    · rename_i v p
      obtain ⟨h1, h2⟩ := and2 h
      exact DS.expr (notComp_sw h1) (sE e s v X W _ h2 ok.toXOk (all_in _))
    · exact absurd h Bool.false_ne_true
  | .ret e, s, x, X, W, h, ok => by
    unfold mS at h
    split at h
    · exact DS.ret (sE e s _ X W _ h ok.toXOk (all_in _))
    · exact absurd h Bool.false_ne_true
  | .retN, s, x, X, W, h, ok => by
    unfold mS at h
    split at h
    · exact DS.retN
    · exact absurd h Bool.false_ne_true
  | .ife c a b, s, x, X, W, h, ok => by
    unfold mS at h
    split at h
    · obtain ⟨h1, h2⟩ := and2 h
      obtain ⟨h2, h3⟩ := and2 h2
      exact DS.ife (sT c s _ X W _ h1 ok.toXOk (all_in _)) (sSs a s _ X W h2 ok) (sSs b s _ X W h3 ok)
    · exact absurd h Bool.false_ne_true
  | .whl c b, s, x, X, W, h, ok => by
    unfold mS at h
    split at h
    · obtain ⟨h1, h2⟩ := and2 h
      exact DS.whl ok.po (sT c s _ X W _ h1 ok.toXOk (all_in _)) (sSs b s _ X W h2 ok) WF
    · exact absurd h Bool.false_ne_true
  | .for t it b, s, x, X, W, h, ok => by
    unfold mS at h
    split at h
    · obtain ⟨h1, h2⟩ := and2 h
      obtain ⟨h1, h3⟩ := and2 h1
      obtain ⟨h2, h4⟩ := and2 h2
      exact DS.for ok.po ok.calm (sI it s _ _ X W _ h2 ok.toXOk (all_in _)) (mG_ok ok.toXOk t _ h1) (sSs b s _ X W h4 ok) (notSet_for h3)
    · exact absurd h Bool.false_ne_true
  | .rais c, s, x, X, W, h, ok => by
    unfold mS at h
    split at h
    · obtain ⟨h1, h2⟩ := and2 h
      obtain ⟨ca, E, kc⟩ := ok.exF (of_decide_eq_true h1) h2
      obtain ⟨Bn, newId, initId, bmB, F, q⟩ := ok.exf
      exact DS.rais ok.calm ok.tk E F (q _ _ E.ad) kc (ok.rz _ _ E.ad).1
    · exact absurd h Bool.false_ne_true
  | .try b hs, s, x, X, W, h, ok => by
    unfold mS at h
    split at h
    · obtain ⟨h1, h2⟩ := and2 h
      obtain ⟨t1, t2⟩ := mH_ok ok _ _ h1
      exact DS.try ok.hst ok.hfr (by rw [ok.hN]; exact ok.nd) ok.tk (fun V pn xe tk po => sSs b s _ (X.tr pn xe) V h2 (ok.tr tk po)) t1 t2 ok.exm
    · exact absurd h Bool.false_ne_true
  | .pass, s, x, X, W, h, ok => by
    unfold mS at h
    split at h
    · exact DS.pass
    · exact absurd h Bool.false_ne_true
  | .brk, s, x, X, W, h, ok => by
    unfold mS at h
    split at h
    · exact DS.brk
    · exact absurd h Bool.false_ne_true
  | .cont, s, x, X, W, h, ok => by
    unfold mS at h
    split at h
    · exact DS.cont
    · exact absurd h Bool.false_ne_true
theorem sSs : ∀ (cs : CSs) (s : Sc) (xs : List Stmt) (X : Cx) (W : WX), mSs N tb cs s xs = true → YOk cad φ k tb N s W X → DSs X cad W xs (exes φ cs)
  | .nil, s, xs, X, W, h, ok => by
    cases xs with
    | nil => exact DSs.nil
    | cons _ _ => exact absurd h Bool.false_ne_true
  | .cons c cs, s, xs, X, W, h, ok => by
    cases xs with
    | nil => exact absurd h Bool.false_ne_true
    | cons x xs =>
      have h : (mS N tb c s x && mSs N tb cs s xs) = true := h
      obtain ⟨h1, h2⟩ := and2 h
      exact DSs.cons (sS c s x X W h1 ok) (sSs cs s xs X W h2 ok)
end
end
end Gn

/-! Gn, part S: a def keeps its promise. -/
namespace Gn
open PySem PySem.Spec
open L2 hiding Loc
open PyProof.Rows hiding St

section
variable {K : PySem.W.Frag} {O : Addr → Prop} {H : Hp} {vs : List V} {args : List Vl}
def eB (vs : List V) (args : List Vl) (i : Nat) (a : Addr) : Prop := ∃ xs, args[i]? = some (.own xs true) ∧ vs[i]? = some (.ref a)
def eZ (O : Addr → Prop) (vs : List V) (args : List Vl) (a : Addr) : Prop := O a ∧ ¬ Lnt vs args a
def eR (n : Nat) (args : List Vl) : Env := args.map some ++ List.replicate n none
def eS (n : Nat) (vs : List V) : St := vs.map some ++ List.replicate n none
theorem eR_get {n i : Nat} {x : Vl} (h : getS (eR n args) i = some x) : args[i]? = some x := by
  unfold getS eR at h
  by_cases hl : i < args.length
  · rw [List.getElem?_append_left (by simpa using hl), List.getElem?_map, List.getElem?_eq_getElem hl] at h
    rw [List.getElem?_eq_getElem hl]
    simpa using h
  · rw [List.getElem?_append_right (by simpa using hl)] at h
    simp only [List.length_map, List.getElem?_replicate] at h
    split at h <;> simp at h
theorem eR_of {n i : Nat} {x : Vl} (h : args[i]? = some x) : getS (eR n args) i = some x := by
  have hl : i < args.length := (List.getElem?_eq_some_iff.mp h).1
  unfold getS eR
  rw [List.getElem?_append_left (by simpa using hl), List.getElem?_map, h]
  rfl
theorem eS_of {n i : Nat} {v : V} (h : vs[i]? = some v) : (eS n vs)[i]? = some (some v) := by
  have hl : i < vs.length := (List.getElem?_eq_some_iff.mp h).1
  unfold eS
  rw [List.getElem?_append_left (by simpa using hl), List.getElem?_map, h]
  rfl
theorem eS_get {n i : Nat} {v : V} (h : (eS n vs)[i]? = some (some v)) : vs[i]? = some v := by
  unfold eS at h
  by_cases hl : i < vs.length
  · rw [List.getElem?_append_left (by simpa using hl), List.getElem?_map, List.getElem?_eq_getElem hl] at h
    rw [List.getElem?_eq_getElem hl]
    simpa using h
  · rw [List.getElem?_append_right (by simpa using hl)] at h
    simp only [List.length_map, List.getElem?_replicate] at h
    split at h <;> simp at h
theorem lnt_iff {a : Addr} : Lnt vs args a ↔ ∃ i, eB vs args i a := ⟨fun ⟨i, xs, h1, h2⟩ => ⟨i, xs, h1, h2⟩, fun ⟨i, xs, h1, h2⟩ => ⟨i, xs, h1, h2⟩⟩
theorem arg_own {v : V} {x : Vl} (h : ArgOk K O H v x) (ho : isOwn x = true) : ∃ xs, x = .own xs true := by
  cases x with
  | own xs b =>
    cases b with
    | true => exact ⟨xs, rfl⟩
    | false => exact h.elim
  | val d => cases ho
  | lok d => cases ho
  | dic k b => exact h.elim
theorem eOO {n : Nat} (ha : ArgsOk K O H vs args) (a : Addr) : OO (eZ O vs args) (eR n args) (eS n vs) a ↔ O a := by
  constructor
  · intro h
    rcases h with h | ⟨i, x, h1, h2, h3⟩
    · exact h.1
    · have e := eR_get h1
      obtain ⟨v, e2, q⟩ := ha.get e
      obtain ⟨xs, rfl⟩ := arg_own q h2
      have e3 := eS_get h3
      rw [e2] at e3; cases e3
      obtain ⟨a', us, ea, _, _, o⟩ := q
      cases ea
      exact o
  · intro h
    by_cases hl : Lnt vs args a
    · obtain ⟨i, xs, h1, h2⟩ := hl
      exact .inr ⟨i, _, eR_of h1, rfl, eS_of h2⟩
    · exact .inl ⟨h, hl⟩
/-- at a def's entry -/
theorem stok_entry {n : Nat} (tk : Tk O H) (ha : ArgsOk K O H vs args)
    (inj : ∀ (i j : Nat) (xs ys : List PD) (a : Addr), args[i]? = some (.own xs true) → args[j]? = some (.own ys true) → vs[i]? = some (.ref a) → vs[j]? = some (.ref a) → i = j) :
    StOk K H (eB vs args) (eZ O vs args) (eR n args) (eS n vs) H := by
  have oo : OO (eZ O vs args) (eR n args) (eS n vs) = O := funext fun a => propext (eOO ha a)
  have bt : ∀ i a, eB vs args i a → (∃ o, H a = some o) ∧ O a := fun i a ⟨xs, h1, h2⟩ => by
    obtain ⟨v, e2, q⟩ := ha.get h1
    rw [h2] at e2; cases e2
    obtain ⟨a', us, ea, e, _, o⟩ := q
    cases ea
    exact ⟨⟨_, e⟩, o⟩
  refine ⟨?_, fun a o e _ => e, fun i a h => (bt i a h).1, fun i a h => (bt i a h).1, fun a z => ⟨tk a z.1, fun h => z.2 (lnt_iff.mpr h)⟩, fun i x h => ?_, fun i x a h ho hs => ?_, fun i j x y a h1 o1 h2 o2 s1 s2 => ?_⟩
  · unfold eR eS
    rw [List.length_append, List.length_append, List.length_map, List.length_map, ha.len, List.length_replicate, List.length_replicate]
  · obtain ⟨v, e, q⟩ := ha.get (eR_get h)
    refine ⟨v, eS_of e, ?_⟩
    rw [oo]
    cases x with
    | val d => exact q
    | lok xs => exact q
    | dic _ _ => exact q.elim
    | own xs b =>
      cases b with
      | false => exact q.elim
      | true =>
        obtain ⟨a, us, e1, e2, e3, _⟩ := q
        exact ⟨a, us, e1, e2, e3⟩
  · have e := eR_get h
    obtain ⟨v, e2, q⟩ := ha.get e
    obtain ⟨xs, rfl⟩ := arg_own q ho
    have hb : eB vs args i a := ⟨xs, e, eS_get hs⟩
    exact ⟨fun z => z.2 (lnt_iff.mpr ⟨i, hb⟩), by rw [if_pos (by rfl)]; exact hb⟩
  · have e1 := eR_get h1
    have e2 := eR_get h2
    obtain ⟨v, g1, q1⟩ := ha.get e1
    obtain ⟨w, g2, q2⟩ := ha.get e2
    obtain ⟨xs, rfl⟩ := arg_own q1 o1
    obtain ⟨ys, rfl⟩ := arg_own q2 o2
    exact inj i j xs ys a e1 e2 (eS_get s1) (eS_get s2)
/-- at its end -/
theorem call_end {np : Nat} {ρ : Env} {σ : St} {H' : Hp} {Y : Addr → Prop} (hY : ∀ a, Y a → H a = none) (S : StOk K H (eB vs args) (fun c => eZ O vs args c ∨ Y c) ρ σ H') (ha : ArgsOk K O H vs args) :
    CallEnd K O H vs args (ρ.take np) (OO (fun c => eZ O vs args c ∨ Y c) ρ σ) H' := by
  refine ⟨fun a o e n => S.keep a o e fun h => n (lnt_iff.mpr h), fun a h => let ⟨i, hb⟩ := lnt_iff.mp h; S.btr i a hb, fun a h => ?_, fun a h n => .inl (.inl ⟨h, n⟩), fun i xs ys a e1 e2 e3 => ?_⟩
  · rcases h with (h | h) | ⟨i, x, h1, h2, h3⟩
    · exact .inl h.1
    · exact .inr (hY a h)
    · have w := (S.own i x a h1 h2 h3).2
      split at w
      · obtain ⟨xs, g1, g2⟩ := w
        obtain ⟨v, g3, q⟩ := ha.get g1
        rw [g2] at g3; cases g3
        obtain ⟨a', us, ea, _, _, o⟩ := q
        cases ea
        exact .inl o
      · exact .inr w
  · have e4 : getS ρ i = some (.own ys true) := by
      unfold getS
      rw [List.getElem?_take] at e2
      split at e2
      · rw [e2]; rfl
      · cases e2
    obtain ⟨v, s1, a', us, rfl, q1, q2⟩ := S.slot i _ e4
    have w := (S.own i _ a' e4 rfl s1).2
    rw [if_pos (by rfl)] at w
    obtain ⟨zs, _, g2⟩ := w
    rw [e3] at g2; cases g2
    exact ⟨.inr ⟨i, _, e4, rfl, s1⟩, us, q1, q2⟩
theorem res_ok {ρ : Env} {σ : St} {H' : Hp} {Z : Addr → Prop} {B : Nat → Addr → Prop} {v : V} {x : Vl} (r : RpF K H B Z ρ σ H' v (.v x)) : ResOk K H (OO (fun c => Z c ∨ (isOwn x = true ∧ v = .ref c)) ρ σ) H' v x ∧ ∀ a, isOwn x = true ∧ v = .ref a → H a = none := by
  match x, r with
  | .val d, ⟨r, _⟩ =>
    refine ⟨?_, fun a h => nomatch h.1⟩
    have e : (OO (fun c => Z c ∨ (isOwn (.val d) = true ∧ v = .ref c)) ρ σ) = OO Z ρ σ := funext fun c => propext ⟨fun z => z.imp (fun z => z.elim id fun w => nomatch w.1) id, fun z => z.imp (fun z => .inl z) id⟩
    show Rp K _ H' v d
    rw [e]; exact r
  | .own xs false, ⟨⟨a, us, e, h1, h2, h3, h4⟩, _⟩ =>
    subst e
    refine ⟨⟨a, us, rfl, h4, h1, RpL.mono (fun c o q => ⟨q.1, fun z => q.2 ?_⟩) _ _ h2, .inl (.inr ⟨rfl, rfl⟩)⟩, fun c ⟨_, ec⟩ => by cases ec; exact h4⟩
    rcases z with (z | ⟨_, z⟩) | z
    · exact .inl (.inl z)
    · cases z; exact .inr rfl
    · exact .inl (.inr z)
end

/-! ### the text's defs -/
/-- a def as it is written, and as the evaluator has it -/
structure FnTx (P : Program) (K : PySem.W.Frag) (mg : Str → Option Value) (tb : Tb) (x : Str) (np : Nat) (fd : FnD) (fa : Addr) (d : FuncData) (ps : List Str) : Prop where
  mg : mg x = some (.ref fa)
  kp : PySem.W.keepIn K (.ref fa) = true
  bi : Binds K d ps []
  bs : ∀ (s : Shared) (us : List Value), us.length = ps.length → BindsTo s d ⟨us, []⟩ (ps.zip us)
  npe : fd.np = np
  pl : ps.length = np
  tx : ∃ (qual : Str) (st : Stmt) (N : List Str), Fun K x qual st fa d ∧ FnScope N ps (defScope st) ∧ N.length = fd.ns ∧ mSs N tb fd.body ⟨defScope st, none⟩ (defBody st) = true
/-- the whole text -/
structure TxOk (P : Program) (w : World) (K : PySem.W.Frag) (mg : Str → Option Value) (base : Heap) (cad : Nat → Option Addr) (tb : Tb) (T : List FnD) : Prop where
  blt : ∀ p ∈ bltTab, mg p.1 = none
  fns : ∀ (f : Nat) (x : Str) (np : Nat), tb.fnm[f]? = some (x, np) → ∃ fd fa d ps, T[f]? = some fd ∧ FnTx P K mg tb x np fd fa d ps
  cls : ∀ (c : Nat) (x : Str), tb.cnm[c]? = some x → ∃ ca, cad c = some ca ∧ mg x = some (.ref ca) ∧ PySem.W.keepIn K (.ref ca) = true
  exf : ∃ (Bn newId initId : String) (bmB : List Value), ExcBaseFacts Bn newId initId bmB ∧ ∀ c a, cad c = some a → PySem.W.excIn K a bmB newId = true
  rz : ∀ c a, cad c = some a → (∀ (M : Model) (h : Heap), K.In h → PySem.W.Looks M h (isSubtype (.ref a) (.type "BaseException")) true ∧ PySem.W.Looks M h (typeOf (.ref a)) (.type "type")) ∧ ExcC K a
  exm : ∀ c k a b, cad c = some a → cad k = some b → PySem.W.exmOne K (.ref a) (.ref b) = some (c == k)
  isa : ∀ c k a b, cad c = some a → cad k = some b → PySem.W.kitOne K (.ref a) (.ref b) = some (c == k)
section
variable {P : Program} {w : World} {K : PySem.W.Frag} {mg : Str → Option Value} {base : Heap} {cad : Nat → Option Addr} {tb : Tb} {T : List FnD}
/-- a def, k calls deep -/
theorem TxOk.fn (G : TxOk P w K mg base cad tb T) : ∀ (k f : Nat) (x : Str) (np : Nat) (fd : FnD) (fa : Addr) (d : FuncData) (ps : List Str), tb.fnm[f]? = some (x, np) → T[f]? = some fd → FnTx P K mg tb x np fd fa d ps → FnOk P w K mg base (L2.CX P w) k fa d ps (spF K cad (fnT T k f) np)
  | 0, f, x, np, fd, fa, d, ps, ef, eT, F => ⟨fun vs H Q E h => h.1.trans F.pl.symm, fun A outer s H args us vs Q E _ _ _ _ h => by
      obtain ⟨_, O, as, _, _, _, q⟩ := h
      exact q.elim⟩
  | k + 1, f, x, np, fd, fa, d, ps, ef, eT, F => by
    obtain ⟨qual, st, N, Fn, S, hN, hb⟩ := F.tx
    refine Fn.okX S (fun vs H Q E h => h.1.trans F.pl.symm) fun cdv A outer s H vs Q E hr ⟨hl, O, args, tk, ha, inj, q⟩ => ?_
    have ok : YOk cad (fnT T k) k tb N ⟨defScope st, none⟩ (fun cls d _ H => E cls d H) (cxOf (L2.CX P w) P w K mg base N qual (defScope st) fa cdv A outer s H E) :=
      { hN := rfl, nd := S.nd, sc := rfl, fn := fun _ _ => rfl, fk := S.kind, calm := rfl, room := hr, tk := takes_of rfl rfl rfl rfl, blt := G.blt
        fns := fun g y m eg => by
          obtain ⟨fd', fa', d', ps', e1, F'⟩ := G.fns g y m eg
          exact ⟨fa', d', ps', F'.mg, F'.kp, F'.bi, G.fn k g y m fd' fa' d' ps' eg e1 F'⟩
        hst := rfl, hfr := rfl, po := passes_of rfl, cls := G.cls, exf := G.exf, rz := G.rz, exm := G.exm, isa := G.isa }
    have hD := sSs fd.body ⟨defScope st, none⟩ (defBody st) _ _ hb ok
    refine ⟨_, hD, H, eB vs args, eZ O vs args, eR (fd.ns - fd.np) args, ?_⟩
    have eS : start N vs = eS (fd.ns - fd.np) vs := by
      unfold L2.start Gn.eS
      rw [hN, hl, F.npe]
    rw [eS]
    refine ⟨stok_entry tk ha inj, ?_⟩
    have hlen : args.length = fd.np := by rw [← ha.len, hl, F.npe]
    have eg : fnT T (k + 1) f args = runF (fnT T k) fd args := by
      simp only [fnT, eT]
    rw [eg] at q
    unfold runF at q
    rw [if_pos hlen] at q
    have e0 : args.map some ++ List.replicate (fd.ns - fd.np) none = eR (fd.ns - fd.np) args := rfl
    rw [e0] at q
    cases e : exes (fnT T k) fd.body (eR (fd.ns - fd.np) args) with
    | bad => rw [e] at q; exact q
    | ex c ρ' =>
      rw [e] at q
      exact fun cl dd σ' H' S' x => q cl dd H' (fun a o e n => S'.keep a o e fun h => n (lnt_iff.mpr h)) (fun a h => let ⟨i, hb⟩ := lnt_iff.mp h; S'.btr i a hb) x
    | ok r ρ' =>
      rw [e] at q
      cases r with
      | next =>
        intro σ' H' S'
        have S2 : StOk K H (eB vs args) (fun c => eZ O vs args c ∨ False) ρ' σ' H' := S'.dropZ fun a z => z.elim id False.elim
        exact q .non H' _ (call_end (fun a z => z.elim) S2 ha) .non
      | brk => exact q.elim
      | cont => exact q.elim
      | ret y =>
        intro v σ' H' S' r
        obtain ⟨r1, r2⟩ := res_ok r
        exact q v H' _ (call_end r2 (zx_of S' r) ha) r1
end
end Gn

/-! Gn, part T: a text by its table. -/
namespace Gn
open PySem PySem.Spec
open L2 hiding Loc
open PyProof.Rows hiding St

/-- a def of the text: its name, where it stands, its names, its parameters -/
structure Rw where
  x : Str
  pl : Nat
  N : List Str
  ps : List Str
def stAt (P : Program) (i : Nat) : Stmt := P.main.body.getD i (.Pass ⟨0, 0, 0, 0⟩)
/-- all names of the scope, all parameters, once -/
def scC (r : Rw) (sc : Scope) : Bool := decide (sc.kind = .function) && (sc.isCoroutine == false) && (sc.isGenerator == false) && decide r.N.Nodup && decide (r.N.take r.ps.length = r.ps) && r.ps.all (fun x => sc.names.lookup x == some .local || sc.names.lookup x == some .cell) && sc.names.all fun y => !(y.2 == .free)
theorem scC_ok {r : Rw} {sc : Scope} (h : scC r sc = true) : FnScope r.N r.ps sc := by
  simp only [scC, Bool.and_eq_true, decide_eq_true_eq, List.all_eq_true, Bool.or_eq_true, Bool.not_eq_true', beq_iff_eq] at h
  obtain ⟨⟨⟨⟨⟨⟨h1, h2⟩, h3⟩, h4⟩, h5⟩, h6⟩, h7⟩ := h
  refine ⟨h1, h2, h3, h4, h5, h6, fun y hy e => ?_⟩
  have := h7 y hy
  rw [e] at this
  exact absurd this (by decide)
/-- one def is as the evaluator has it -/
def rwC (P : Program) (tb : Tb) (r : Rw) (fd : FnD) : Bool := scC r (defScope (stAt P r.pl)) && decide (r.ps.length = fd.np) && decide (r.N.length = fd.ns) && mSs r.N tb fd.body ⟨defScope (stAt P r.pl), none⟩ (defBody (stAt P r.pl))
def allC (P : Program) (tb : Tb) : List Rw → List FnD → Bool
  | [], [] => true
  | r :: rs, d :: ds => rwC P tb r d && allC P tb rs ds
  | _, _ => false
end Gn

/-! Gn, part U: the head; what the text's top leaves behind. -/
namespace Gn
open PySem PySem.Spec
open L2 hiding Loc
open PyProof.Rows hiding St

theorem lookup_zip : ∀ {ps : List Str} {us : List Value} {n : Str}, us.length = ps.length → n ∈ ps → ∃ u, (ps.zip us).lookup n = some u
  | [], us, n, hl, h => absurd h List.not_mem_nil
  | p :: ps, [], n, hl, h => by simp at hl
  | p :: ps, u :: us, n, hl, h => by
    rw [List.zip_cons_cons, List.lookup_cons]
    by_cases e : n = p
    · subst e
      exact ⟨u, by simp⟩
    · have : (n == p) = false := beq_eq_false_iff_ne.mpr e
      rw [this]
      rcases List.mem_cons.mp h with h | h
      · exact absurd h e
      · exact lookup_zip (by simpa using hl) h
theorem zip_fm : ∀ {ps qs : List Str} {us : List Value} {l : List (Str × Value)}, ps.Nodup → us.length = ps.length → (∀ n u, (n, u) ∈ ps.zip us → l.lookup n = some u) → ps.filterMap (fun n => (l.lookup n).map (n, ·)) = ps.zip us
  | [], qs, us, l, nd, hl, h => by
    cases us with
    | nil => rfl
    | cons _ _ => simp at hl
  | p :: ps, qs, [], l, nd, hl, h => by simp at hl
  | p :: ps, qs, u :: us, l, nd, hl, h => by
    rw [List.filterMap_cons, h p u (by simp), List.zip_cons_cons]
    simp only [Option.map_some]
    rw [zip_fm (qs := qs) (us := us) (List.nodup_cons.mp nd).2 (by simpa using hl) fun n w hn => h n w (by rw [List.zip_cons_cons]; exact List.mem_cons_of_mem _ hn)]
theorem zip_lk : ∀ {ps : List Str} {us : List Value} {n : Str} {u : Value}, ps.Nodup → (n, u) ∈ ps.zip us → (ps.zip us).lookup n = some u
  | [], us, n, u, nd, h => by simp at h
  | p :: ps, [], n, u, nd, h => by simp at h
  | p :: ps, v :: us, n, u, nd, h => by
    rw [List.zip_cons_cons] at h ⊢
    rw [List.lookup_cons]
    rcases List.mem_cons.mp h with h | h
    · cases h
      simp
    · have : n ∈ ps := (List.of_mem_zip h).1
      have e : (n == p) = false := beq_eq_false_iff_ne.mpr fun e => (List.nodup_cons.mp nd).1 (e ▸ this)
      rw [e]
      exact zip_lk (List.nodup_cons.mp nd).2 h
def argsC (a : Arguments) (ps : List Str) : Bool := a.posonlyargs.isEmpty && decide (a.args.map (·.arg) = ps) && a.vararg.isNone && a.kwonlyargs.isEmpty && a.kwarg.isNone && decide ps.Nodup
theorem argsC_ok {a : Arguments} {ps : List Str} (h : argsC a ps = true) {x qual : Str} {body : List Stmt} {scope : Scope} {kV doc pm : Value} {an : Option Addr} {cdv ct : Value} {us : List Value} (hl : us.length = ps.length) :
    bindArgs (PySem.W.fnOf x qual a body scope .none kV doc pm an cdv ct) ⟨us, []⟩ = pure (ps.zip us) := by
  obtain ⟨po, ar, va, ko, kd, kw, df⟩ := a
  simp only [argsC, Bool.and_eq_true, List.isEmpty_iff, decide_eq_true_eq, Option.isNone_iff_eq_none] at h
  obtain ⟨⟨⟨⟨⟨h1, h2⟩, h3⟩, h4⟩, h5⟩, nd⟩ := h
  subst h1 h3 h4 h5
  have hm : (ps.filter fun n => ((ps.zip us).lookup n).isNone) = [] := by
    rw [List.filter_eq_nil_iff]
    intro n hn
    obtain ⟨u, e⟩ := lookup_zip hl hn
    rw [e]; simp
  have hf : ps.filterMap (fun n => ((ps.zip us).lookup n).map (n, ·)) = ps.zip us := zip_fm (qs := []) nd hl fun n u h => zip_lk nd h
  have hs : seqItems? .none = pure none := rfl
  unfold bindArgs
  simp [PySem.W.fnOf, h2, hs, hl, hm, hf]

/-! ### classes -/
def excB (K : PySem.W.Frag) (D : Addr) : Bool :=
  He.eqO (PySem.W.findIn K (.ref D) "__getattribute__") (some (some (.builtin "BaseException.__getattribute__"))) && He.eqO (PySem.W.findIn K (.ref D) "__getattr__") (some none) && decide (PySem.W.subIn K (.ref D) (.type "BaseException") = some true) && PySem.W.hasDictIn K D &&
  He.eqO (PySem.W.findIn K (.ref D) "__class__") (some (some (.builtin "object.__class__"))) && He.eqO (PySem.W.specialIn K (.builtin "object.__class__") "__get__") (some (some (.builtin "getset_descriptor.__get__"))) &&
  decide (PySem.W.takesIn K (.builtin "object.__class__") = some true) && decide (PySem.W.mroIn K D (.type "object") = some true)
theorem excB_ok {K : PySem.W.Frag} {D : Addr} (h : excB K D = true) : ExcC K D := by
  simp only [excB, Bool.and_eq_true, decide_eq_true_eq] at h
  obtain ⟨⟨⟨⟨⟨⟨⟨h1, h2⟩, h3⟩, h4⟩, h5⟩, h6⟩, h7⟩, h8⟩ := h
  exact ⟨He.eqO_ok h1, He.eqO_ok h2, h3, h4, He.eqO_ok h5, He.eqO_ok h6, h7, h8⟩
def cA (cs : List Str) (K : PySem.W.Frag) (i : Nat) : Option Addr := (cs[i]?).map (He.ga K)
def exB (cs : List Str) (K : PySem.W.Frag) : Bool := (cs.all fun x => excB K (He.ga K x)) && (List.range cs.length).all fun i => (List.range cs.length).all fun j =>
  decide (PySem.W.exmOne K (.ref (He.ga K (cs.getD i ""))) (.ref (He.ga K (cs.getD j ""))) = some (i == j)) && decide (PySem.W.kitOne K (.ref (He.ga K (cs.getD i ""))) (.ref (He.ga K (cs.getD j ""))) = some (i == j))
theorem exB_two {cs : List Str} {K : PySem.W.Frag} (h : exB cs K = true) {c k : Nat} {a b : Addr} (ha : cA cs K c = some a) (hb : cA cs K k = some b) : PySem.W.exmOne K (.ref a) (.ref b) = some (c == k) ∧ PySem.W.kitOne K (.ref a) (.ref b) = some (c == k) := by
  have h2 := (and2 h).2
  unfold cA at ha hb
  cases ec : cs[c]? with
  | none => rw [ec] at ha; cases ha
  | some x =>
    cases ek : cs[k]? with
    | none => rw [ek] at hb; cases hb
    | some y =>
      rw [ec] at ha
      rw [ek] at hb
      cases ha; cases hb
      have hc := (List.getElem?_eq_some_iff.mp ec).1
      have hk := (List.getElem?_eq_some_iff.mp ek).1
      have q := List.all_eq_true.mp (List.all_eq_true.mp h2 c (List.mem_range.mpr hc)) k (List.mem_range.mpr hk)
      rw [show cs.getD c "" = x by rw [List.getD_eq_getElem?_getD, ec]; rfl, show cs.getD k "" = y by rw [List.getD_eq_getElem?_getD, ek]; rfl] at q
      obtain ⟨q1, q2⟩ := and2 q
      exact ⟨of_decide_eq_true q1, of_decide_eq_true q2⟩
theorem exB_one {cs : List Str} {K : PySem.W.Frag} (h : exB cs K = true) {c : Nat} {a : Addr} (ha : cA cs K c = some a) : ∃ x ∈ cs, a = He.ga K x ∧ ExcC K a := by
  unfold cA at ha
  cases ec : cs[c]? with
  | none => rw [ec] at ha; cases ha
  | some x =>
    rw [ec] at ha
    cases ha
    have hx := List.mem_of_getElem? ec
    exact ⟨x, hx, rfl, excB_ok (List.all_eq_true.mp (and2 h).1 x hx)⟩
/-! ### the table of the head -/
def dOf (P : Program) (r : Rw) : He.DefD := ⟨(r.x, none), r.x, r.x, defArgs (stAt P r.pl), defBody (stAt P r.pl), defScope (stAt P r.pl), [], []⟩
def fnL (P : Program) (rs : List Rw) : List He.DefD := rs.map (dOf P)
def faL (rs : List Rw) (cs : List Str) : List He.Fa := rs.map (fun r => He.Fa.glo r.x) ++ (cs.map (fun x => He.Fa.glo x) ++ (cs.map (fun x => He.Fa.exc x) ++ bltTab.map fun p => He.Fa.free p.1))
abbrev hkL (P : Program) (rs : List Rw) (cs : List Str) : PySem.W.Hook := He.hookX 4 (faL rs cs) (fnL P rs) [] [] (exB cs)
def obL (P : Program) (rs : List Rw) (cs : List Str) (s : PySem.W.SharedT) : He.AlX := He.obsX 4 (faL rs cs) (fnL P rs) [] [] (exB cs) (HandSHeadRun.getT s)
theorem obL_eq (P : Program) (rs : List Rw) (cs : List Str) (s : PySem.W.SharedT) : obL P rs cs s = (hkL P rs cs).obs s.abs := He.obsX_eq (HandSHeadRun.getT_eq s)
theorem allC_get {P : Program} {tb : Tb} : ∀ {rs : List Rw} {ds : List FnD} {f : Nat} {r : Rw}, allC P tb rs ds = true → rs[f]? = some r → ∃ d, ds[f]? = some d ∧ rwC P tb r d = true
  | [], ds, f, r, h, e => by simp at e
  | r' :: rs, [], f, r, h, e => absurd h Bool.false_ne_true
  | r' :: rs, d :: ds, 0, r, h, e => by
    simp only [List.getElem?_cons_zero, Option.some.injEq] at e
    subst e
    exact ⟨d, rfl, (and2 h).1⟩
  | r' :: rs, d :: ds, f + 1, r, h, e => by
    obtain ⟨d', e1, e2⟩ := allC_get (f := f) (and2 h).2 (by simpa using e)
    exact ⟨d', by simpa using e1, e2⟩
/-- the whole text, behind its top -/
theorem txOk {P Q : Program} {w : World} {K : PySem.W.Frag} {h : Heap} {mg : Str → Option Value} {base : Heap} {rs : List Rw} {T : List FnD} {cs : List Str} (X : K.In h) (G : h.Ns mainGlobals mg) (c : He.SaysX (faL rs cs) (fnL P rs) [] [] (exB cs) w h K)
    (hc : allC P ⟨rs.map fun r => (r.x, r.ps.length), cs⟩ rs T = true) (ha : rs.all (fun r => argsC (defArgs (stAt P r.pl)) r.ps) = true) : TxOk Q w K mg base (cA cs K) ⟨rs.map fun r => (r.x, r.ps.length), cs⟩ T := by
  have D := c.t.d
  have me := c.more
  have exc : ∀ {x : Str}, x ∈ cs → _ := fun {x} hx => He.exc_ok (D.facts (f := .exc x) (List.mem_append_right _ (List.mem_append_right _ (List.mem_append_left _ (List.mem_map_of_mem hx)))))
  refine ⟨fun p hp => He.free_ok X G (D.facts (List.mem_append_right _ (List.mem_append_right _ (List.mem_append_right _ (List.mem_map_of_mem hp))))), fun f x np e => ?_, fun k x e => ?_, ⟨_, _, _, _, PySem.F.excBase_ValueError, fun k a e => ?_⟩, fun k a e => ?_, fun i j a b e1 e2 => (exB_two me e1 e2).1, fun i j a b e1 e2 => (exB_two me e1 e2).2⟩
  · have e : (rs.map fun r => (r.x, r.ps.length))[f]? = some (x, np) := e
    rw [List.getElem?_map] at e
    cases er : rs[f]? with
    | none => rw [er] at e; cases e
    | some r =>
      rw [er] at e
      cases e
      obtain ⟨d, e1, e2⟩ := allC_get hc er
      have hr := List.mem_of_getElem? er
      obtain ⟨fd, F⟩ := D.defs (d := dOf P r) (List.mem_map_of_mem hr)
      have g := He.glo_ok X G (D.facts (f := .glo r.x) (List.mem_append_left _ (List.mem_map_of_mem hr)))
      obtain ⟨⟨⟨c1, c2⟩, c3⟩, c4⟩ := id (by simpa only [rwC, Bool.and_eq_true] using e2 : ((_ ∧ _) ∧ _) ∧ _)
      have ac := List.all_eq_true.mp ha r hr
      refine ⟨d, He.fAd K (r.x, none), fd, r.ps, e1, g, F.kp, F.bindsN fun kV doc pm an cdv ct us hl => argsC_ok ac hl, fun s us hl => F.bindsA (fun kV doc pm an cdv ct us hl => argsC_ok ac hl) s us hl, (of_decide_eq_true c2).symm, rfl, ?_⟩
      obtain ⟨oc, od, dV, kV, doc, pm, an, cdv, ct, osl, q1, q2, q3, q4, q5⟩ := F.ex
      rcases q4 with ⟨_, rfl⟩ | ⟨z, _⟩
      · exact ⟨r.x, stAt P r.pl, r.N, ⟨⟨oc, od, kV, doc, pm, an, cdv, ct, osl, q1, q2, q3⟩, F.kp⟩, scC_ok c1, of_decide_eq_true c3, c4⟩
      · exact absurd rfl z
  · have e : cs[k]? = some x := e
    have hx := List.mem_of_getElem? e
    refine ⟨He.ga K x, by unfold cA; rw [e]; rfl, He.glo_ok X G (D.facts (f := .glo x) (List.mem_append_right _ (List.mem_append_left _ (List.mem_map_of_mem hx)))), (exc hx).2.1⟩
  · obtain ⟨x, hx, rfl, _⟩ := exB_one me e
    exact (exc hx).1
  · obtain ⟨x, hx, rfl, z⟩ := exB_one me e
    exact ⟨fun M h' hK => ⟨PySem.W.looks_subIn hK (exc hx).2.2.1, PySem.W.looks_typeIn hK (exc hx).2.2.2⟩, z⟩
end Gn

/-! Gn, part V: a law by the evaluator. -/
namespace Gn
open PySem PySem.Spec
open L2 hiding Loc
open PyProof.Rows hiding St

theorem rpl_ints {K : PySem.W.Frag} {O : Addr → Prop} {H : Hp} : ∀ ns : List Int, RpL K O H (ns.map V.int) (ns.map PyData.int)
  | [] => .nil
  | n :: ns => .cons (.int n) (rpl_ints ns)
/-- the law's promise: at every script the evaluator answers True -/
theorem law_sp {K : PySem.W.Frag} {cad : Nat → Option Addr} {g : List Vl → FRes} {ns : List Int} (hg : ∃ outs, g [.lok (ns.map .int)] = .ok (.val (.bool true)) outs) {H : Hp} {a : Addr} (hO : Only H) (hS : SqL K H a (ns.map V.int)) :
    spF K cad g 1 [.ref a] H (fun v _ => v = .bl true) fun _ _ _ => False := by
  obtain ⟨outs, hg⟩ := hg
  have lk : Lk K (fun _ => False) H a (ns.map V.int) := by
    rcases hS with (h | ⟨o, h⟩) | h
    · rcases hO a with q | ⟨o, xs, q⟩
      · rw [q] at h; cases h
      · rw [q] at h; cases h
    · exact .inl ⟨o, h, id⟩
    · exact .inr h
  refine ⟨rfl, fun _ => False, [.lok (ns.map .int)], fun a z => z.elim, ⟨⟨a, _, rfl, lk, rpl_ints ns⟩, trivial⟩, fun i j xs ys b h1 h2 h3 h4 => ?_, ?_⟩
  · cases i with
    | zero => simp at h1
    | succ i => simp at h1
  · rw [hg]
    intro v H' O' _ r
    have r : Rp K O' H' v (.bool true) := r
    cases r
    rfl
/-- the walk of a law that reads its script alone -/
theorem walkL {l : PySem.W.OpenLaw} {q : Program} {loose : List Str} {XP : (Str → Option Value) → Heap → Prop} {d : DefRec} {n k f : Nat} {P : Program} {rs : List Rw} {T : List FnD} {cs : List Str} {r : Rw} {x : Str} (hn : l.most = some n) (hn2 : n ≤ sizeLine) (hdf : d.params.defaults = []) (hr : Room k callerA)
    (hf : rs[f]? = some r) (hx : r.x = d.name) (hps : r.ps = [x]) (hc : allC P ⟨rs.map fun r => (r.x, r.ps.length), cs⟩ rs T = true) (ha : rs.all (fun r => argsC (defArgs (stAt P r.pl)) r.ps) = true)
    (law : ∀ ns : List Int, ns.length ≤ n → ∃ outs, fnT T k f [.lok (ns.map .int)] = .ok (.val (.bool true)) outs) :
    PySem.W.WalkO q loose XP (hkL P rs cs).says l.row.toRowW d [] (fun f vs => PySem.call f vs) := by
  refine Att.attach_call hn hdf ?_
  intro w s₀ s₁ mg mb fa o pm cd doc a vs ns G Y ho hd hcd hmg hobj hints hlen hg
  obtain ⟨K, KX, c⟩ := Y
  have tx : ∀ base : Heap, TxOk l.prog w K mg base (cA cs K) ⟨rs.map fun r => (r.x, r.ps.length), cs⟩ T := fun base => txOk KX G.T.g c hc ha
  have ef : (rs.map fun r => (r.x, r.ps.length))[f]? = some (d.name, 1) := by
    rw [List.getElem?_map, hf]
    show some (r.x, r.ps.length) = _
    rw [hx, hps]; rfl
  obtain ⟨e, fb, fd, ps, e1, F⟩ := (tx s₁.heap).fns f d.name 1 ef
  have same := hmg.symm.trans F.mg
  cases same
  obtain ⟨y, rfl⟩ : ∃ y, ps = [y] := by
    have hl := F.pl
    match ps, hl with
    | [y], _ => exact ⟨y, rfl⟩
  have hb : ∀ (s : Shared) (u : Value), BindsTo s fd ⟨[u], []⟩ [(y, u)] := fun s u => F.bs s [u] rfl
  exact law_call (CX := L2.CX l.prog w) (sp := spF K (cA cs K) (fnT T k f) 1) KX G.T.g G.T.b G.T.builtins G.T.nolimit hg hobj hints (Nat.le_trans hlen hn2) hr (fun base _ _ => (tx base).fn k f d.name 1 e fa fd [y] ef e1 F) hb (fun H hO hS => law_sp (law ns hlen) hO hS)
    fun H e s' z => by
      obtain ⟨_, _, _, _, _, _, _, _, _, _, _, _, z⟩ := z
      exact z.elim
end Gn

/-! Gn, part W: values alone: the evaluator without the question whose a list is. -/
namespace Gn
open PySem

abbrev DEnv := List (Option PD)
inductive DOut (α : Type) where
  | ok (a : α) (δ : DEnv)
  | ex (c : Exn)
  | bad
def DM (α : Type) := DEnv → DOut α
def DM.ret {α : Type} (a : α) : DM α := fun δ => .ok a δ
def DM.bind {α β : Type} (m : DM α) (f : α → DM β) : DM β := fun δ => match m δ with
  | .ok a δ' => f a δ'
  | .ex c => .ex c
  | .bad => .bad
def DM.bad {α : Type} : DM α := fun _ => .bad
def DM.ofO {α : Type} : Option α → DM α
  | some a => fun δ => .ok a δ
  | none => fun _ => .bad
/-- a call's answer, the values of its parameters behind it -/
inductive DRes where
  | ok (d : PD) (outs : DEnv)
  | ex (c : Exn)
  | bad
abbrev DFns := Nat → List PD → DRes
def getD' (δ : DEnv) (i : Nat) : Option PD := (δ[i]?).join
def rdD (i : Nat) : DM PD := fun δ => match getD' δ i with
  | some d => .ok d δ
  | none => .bad
def wrD (i : Nat) (d : PD) : DM Unit := fun δ => if i < δ.length then .ok () (δ.set i (some d)) else .bad
mutual
def dasg : Tg → PD → DM Unit
  | .name i, d => wrD i d
  | .nil, .tuple [] => DM.ret ()
  | .cons t ts, .tuple (d :: ds) => (dasg t d).bind fun _ => dasgL ts ds
  | _, _ => DM.bad
def dasgL : Tg → List PD → DM Unit
  | .nil, [] => DM.ret ()
  | .cons t ts, d :: ds => (dasg t d).bind fun _ => dasgL ts ds
  | _, _ => DM.bad
end
def wipeD (δ : DEnv) : List Nat → DEnv
  | [] => δ
  | i :: is => (wipeD δ is).set i none
def backD (δ₀ δ : DEnv) : List Nat → DEnv
  | [] => δ
  | i :: is => (backD δ₀ δ is).set i (getD' δ₀ i)
def vd (z : Option Vl) : Option PD := z.bind Vl.d
def liftO {α : Type} (o : Option α) : DM α := DM.ofO o
def appD (i : Nat) (d : PD) : DM PD := fun δ => match getD' δ i with
  | some (.list xs) => if xs.length < SL then .ok .none (δ.set i (some (.list (xs ++ [d])))) else .bad
  | _ => .bad
def extD (i : Nat) (d : PD) : DM PD := fun δ => match getD' δ i, d with
  | some (.list xs), .list ys => if xs.length + ys.length ≤ SL then .ok .none (δ.set i (some (.list (xs ++ ys)))) else .bad
  | _, _ => .bad
def popD (i : Nat) (k : Option Int) : DM PD := fun δ => match getD' δ i with
  | some (.list xs) => match L2.ixN xs.length (k.getD (-1)) with
    | some j => match xs[j]? with
      | some d => if xs.length ≤ SL then .ok d (δ.set i (some (.list (xs.eraseIdx j)))) else .bad
      | none => .bad
    | none => .bad
  | _ => .bad
def setDx (i : Nat) (k d : PD) : DM Unit := fun δ => match getD' δ i, k with
  | some (.list xs), .int k => match L2.ixN xs.length k with
    | some j => .ok () (δ.set i (some (.list (xs.set j d))))
    | none => .bad
  | _, _ => .bad
def isLst : PD → Bool
  | .list _ => true
  | _ => false
/-- what it is at the call; what is lent is a list -/
def daV (δ : DEnv) : AR → Option PD
  | .val d => some d
  | .ref i => match getD' δ i with
    | some (.list xs) => some (.list xs)
    | _ => none
/-- what was lent takes its new value -/
def backL (δ : DEnv) : List AR → DEnv → DEnv
  | [], _ => δ
  | .val _ :: r, os => backL δ r os.tail
  | .ref i :: r, os => (backL δ r os.tail).set i (os.headD none)
def daVs (δ : DEnv) : List AR → Option (List PD)
  | [] => some []
  | a :: as => match daV δ a, daVs δ as with
    | some d, some ds => some (d :: ds)
    | _, _ => none
def callD (φ : DFns) (f : Nat) (as : List AR) : DM PD := fun δ => match daVs δ as with
  | some ds => match φ f ds with
    | .ok d outs => .ok d (backL δ as outs)
    | .ex c => .ex c
    | .bad => .bad
  | none => .bad
def chkL (i : Nat) : DM Unit := fun δ => match getD' δ i with
  | some (.list _) => .ok () δ
  | _ => .bad
def compD (own : List Nat) (tg : Tg) (c : DM Bool) (el : DM PD) : List PD → DM (List PD)
  | [] => DM.ret []
  | d :: ds => fun δ => ((dasg tg d).bind fun _ => c.bind fun k => if k then el.bind fun y => (compD own tg c el ds).bind fun ys => DM.ret (y :: ys) else compD own tg c el ds) (wipeD δ own)
def compDM (own : List Nat) (tg : Tg) (c : DM Bool) (el : DM PD) (ds : List PD) : DM PD := fun δ => if (namesT tg).all fun i => own.contains i then match compD own tg c el ds δ with
    | .ok ys δ' => .ok (.list ys) (backD δ δ' own)
    | .ex _ => .bad
    | .bad => .bad
  else .bad
mutual
def de (φ : DFns) : CE → DM PD
  | .var i => rdD i
  | .con k => DM.ret k.d
  | .tup es => (des φ es).bind fun ds => DM.ret (.tuple ds)
  | .lst es => (des φ es).bind fun ds => DM.ret (.list ds)
  | .bin o a b => (de φ a).bind fun d => (de φ b).bind fun e => DM.ofO (vd (binD o d e))
  | .neg a => (de φ a).bind fun d => DM.ofO (vd (negD d))
  | .not a => (de φ a).bind fun d => (DM.ofO (truD d)).bind fun k => DM.ret (.bool (!k))
  | .and a b => (de φ a).bind fun d => (DM.ofO (truD d)).bind fun k => if k then de φ b else DM.ret d
  | .or a b => (de φ a).bind fun d => (DM.ofO (truD d)).bind fun k => if k then DM.ret d else de φ b
  | .ite c a b => (dt φ c).bind fun k => if k then de φ a else de φ b
  | .cmp o a b => (de φ a).bind fun d => (de φ b).bind fun e => (DM.ofO (cmpD o d e)).bind fun z => DM.ret (.bool z)
  | .cmp2 o1 o2 a b c => (de φ a).bind fun d => (de φ b).bind fun e => (DM.ofO (cmpD o1 d e)).bind fun z =>
      if z then (de φ c).bind fun f => (DM.ofO (cmpD o2 e f)).bind fun z => DM.ret (.bool z) else DM.ret (.bool false)
  | .sub a b => (de φ a).bind fun d => (de φ b).bind fun e => DM.ofO (subD d e)
  | .slc a lo hi => (de φ a).bind fun d => (deo φ lo).bind fun l => (deo φ hi).bind fun h => DM.ofO (vd (slcD d l h))
  | .rev a => (de φ a).bind fun d => DM.ofO (vd (revD d))
  | .call f rs es => (dea φ es rs).bind fun as => callD φ f as
  | .bi b es => (des φ es).bind fun ds => DM.ofO (vd (biD b ds))
  | .isi a ts => (de φ a).bind fun d => DM.ret (.bool (ts.any (tyD d)))
  | .lstI it => (dei φ it).bind fun ds => DM.ret (.list ds)
  | .tupI it => (dei φ it).bind fun ds => DM.ret (.tuple ds)
  | .comp elt own tg it c => (dei φ it).bind fun ds => compDM own tg (dt φ c) (de φ elt) ds
  | .app i e => (chkL i).bind fun _ => (de φ e).bind fun d => appD i d
  | .ext i e => (chkL i).bind fun _ => (de φ e).bind fun d => extD i d
  | .pop i e => (chkL i).bind fun _ => (deo φ e).bind fun k => popD i k
  | .thaw _ e => (de φ e).bind fun d => if scal d then DM.ret d else DM.bad
def des (φ : DFns) : CEs → DM (List PD)
  | .nil => DM.ret []
  | .cons e es => (de φ e).bind fun d => (des φ es).bind fun ds => DM.ret (d :: ds)
def dea (φ : DFns) : CEs → List Bool → DM (List AR)
  | .nil, _ => DM.ret []
  | .cons (.var i) es, true :: rs => (chkL i).bind fun _ => (dea φ es rs).bind fun as => DM.ret (.ref i :: as)
  | .cons e es, rs => (de φ e).bind fun d => (dea φ es rs.tail).bind fun as => DM.ret (.val d :: as)
def deo (φ : DFns) : CEo → DM (Option Int)
  | .none => DM.ret none
  | .some e => (de φ e).bind fun d => (DM.ofO (intD d)).bind fun i => DM.ret (some i)
def dt (φ : DFns) : CT → DM Bool
  | .yes => DM.ret true
  | .val e => (de φ e).bind fun d => DM.ofO (truD d)
  | .not t => (dt φ t).bind fun k => DM.ret (!k)
  | .and a b => (dt φ a).bind fun k => if k then dt φ b else DM.ret false
  | .or a b => (dt φ a).bind fun k => if k then DM.ret true else dt φ b
  | .ite c a b => (dt φ c).bind fun k => if k then dt φ a else dt φ b
def dei (φ : DFns) : CI → DM (List PD)
  | .seq e => (de φ e).bind fun d => DM.ofO (seqOf d)
  | .rng1 e => (de φ e).bind fun d => match d with
    | .int j => if rngOk 0 j then DM.ret (rngD 0 j.toNat) else DM.bad
    | _ => DM.bad
  | .rng2 a b => (de φ a).bind fun d => (de φ b).bind fun e => match d, e with
    | .int i, .int j => if rngOk i j then DM.ret (rngD i (j - i).toNat) else DM.bad
    | _, _ => DM.bad
  | .enum e => (de φ e).bind fun d => DM.ofO (enumP d)
  | .zip a b => (de φ a).bind fun d => (de φ b).bind fun e => DM.ofO (zipP d e)
end
inductive DFl where
  | next
  | brk
  | cont
  | ret (d : PD)
def dpar : List Tg → List PD → DM Unit
  | [], [] => DM.ret ()
  | t :: ts, d :: ds => (dasg t d).bind fun _ => dpar ts ds
  | _, _ => DM.bad
def dwhile (c : DM Bool) (b : DM DFl) : Nat → DM DFl
  | 0 => DM.bad
  | n + 1 => c.bind fun k => if k then b.bind fun f => match f with
      | .next => dwhile c b n
      | .cont => dwhile c b n
      | .brk => DM.ret .next
      | .ret x => DM.ret (.ret x)
    else DM.ret .next
def dfor (t : Tg) (b : DM DFl) : List PD → DM DFl
  | [] => DM.ret .next
  | d :: ds => (dasg t d).bind fun _ => b.bind fun f => match f with
    | .next => dfor t b ds
    | .cont => dfor t b ds
    | .brk => DM.ret .next
    | .ret x => DM.ret (.ret x)
def Hr.pd : Hr → PD
  | .none => .none
  | .lst ks => .list (ks.map Kc.d)
def dtry (b : DM DFl) (hs : List (Nat × Hr)) : DM DFl := fun δ => match b δ with
  | .ex c => match hs.lookup c.cls with
    | some h => .ok (.ret h.pd) δ
    | none => .ex c
  | r => r
def dseq (g : DM DFl) : DFl → DM DFl
  | .next => g
  | f => DM.ret f
def intDS (i : Nat) : DM Int := fun δ => match getD' δ i with
  | some (.int m) => .ok m δ
  | _ => .bad
mutual
def dx (φ : DFns) : CS → DM DFl
  | .asg t e => (de φ e).bind fun d => (dasg t d).bind fun _ => DM.ret .next
  | .par ts es => (des φ es).bind fun ds => (dpar ts ds).bind fun _ => DM.ret .next
  | .setIx i ix e => (de φ e).bind fun d => (chkL i).bind fun _ => (de φ ix).bind fun k => (setDx i k d).bind fun _ => DM.ret .next
  | .aug i e => (intDS i).bind fun m => (de φ e).bind fun d => (DM.ofO (intD d)).bind fun n => (wrD i (.int (m + n))).bind fun _ => DM.ret .next
  | .expr e => (de φ e).bind fun _ => DM.ret .next
  | .ret e => (de φ e).bind fun d => DM.ret (.ret d)
  | .retN => DM.ret (.ret .none)
  | .ife c a b => (dt φ c).bind fun k => if k then dxs φ a else dxs φ b
  | .whl c b => dwhile (dt φ c) (dxs φ b) WF
  | .for t it b => (dei φ it).bind fun ds => dfor t (dxs φ b) ds
  | .rais c => fun _ => .ex ⟨c, none⟩
  | .try b hs => dtry (dxs φ b) hs
  | .pass => DM.ret .next
  | .brk => DM.ret .brk
  | .cont => DM.ret .cont
def dxs (φ : DFns) : CSs → DM DFl
  | .nil => DM.ret .next
  | .cons s ss => (dx φ s).bind (dseq (dxs φ ss))
end
def drun (φ : DFns) (fd : FnD) (args : List PD) : DRes :=
  if args.length = fd.np then match dxs φ fd.body (args.map some ++ List.replicate (fd.ns - fd.np) none) with
    | .ok (.ret x) δ => .ok x (δ.take fd.np)
    | .ok .next δ => .ok .none (δ.take fd.np)
    | .ok _ _ => .bad
    | .ex c => .ex c
    | .bad => .bad
  else .bad
def dfn (T : List FnD) : Nat → DFns
  | 0 => fun _ _ => .bad
  | k + 1 => fun f args => match T[f]? with
    | some fd => drun (dfn T k) fd args
    | none => .bad
end Gn

/-! Gn, part X: whose a list is, told from the text alone. -/
namespace Gn
open PySem

/-- a slot: v F D (F: no list that is data; D: data), a list that the caller lent, a list that may be cut alone -/
inductive Kd where
  | v (F D : Bool)
  | b
  | l
  deriving DecidableEq
abbrev KEnv := List Kd
def Kd.jn : Kd → Kd → Option Kd
  | .v p q, .v r s => some (.v (p && r) (q && s))
  | .b, .b => some .b
  | .l, .l => some .l
  | _, _ => none
def jn : KEnv → KEnv → Option KEnv
  | [], [] => some []
  | x :: xs, y :: ys => match x.jn y, jn xs ys with
    | some z, some zs => some (z :: zs)
    | _, _ => none
  | _, _ => none
/-- slot i's list is data from now on -/
def frzK (κ : KEnv) (i : Nat) : Option KEnv := match κ[i]? with
  | some (.v _ true) => some κ
  | some (.v _ false) => some (κ.set i (.v false true))
  | _ => none
/-- slot i takes another value -/
def putK (κ : KEnv) (i : Nat) (F D : Bool) : Option KEnv := match κ[i]? with
  | some (.v _ _) => some (κ.set i (.v F D))
  | _ => none
def tgK (κ : KEnv) : Tg → Option KEnv
  | .name i => putK κ i false true
  | .nil => some κ
  | .cons t ts => (tgK κ t).bind fun κ => tgK κ ts
/-- may it be read -/
def pkK (κ : KEnv) : CE → Bool
  | .var i => !(κ[i]? == some .l)
  | _ => true
/-- what a slot shows is not changed meanwhile -/
def calmK : CE → List Nat → Bool
  | .var i, m => !m.contains i
  | _, _ => true
/-- a list of its own -/
def ownK (κ : KEnv) (i : Nat) : Bool := match κ[i]? with
  | some (.v true _) => true
  | some .b => true
  | _ => false
def datK (κ : KEnv) (i : Nat) : Bool := match κ[i]? with
  | some (.v _ true) => true
  | _ => false
def dat0 (κ : KEnv) (i : Nat) : Bool := decide (κ[i]? = some (.v false true))
def setAll (κ : KEnv) : List Nat → Kd → KEnv
  | [], _ => κ
  | i :: is, k => (setAll κ is k).set i k
def backK (κ₀ κ : KEnv) : List Nat → KEnv
  | [] => κ
  | i :: is => match κ₀[i]? with
    | some k => (backK κ₀ κ is).set i k
    | none => backK κ₀ κ is
/-- lists that were lent to nobody for good are their slots' again -/
def thK (κ₀ κ : KEnv) : List Nat → KEnv
  | [] => κ
  | i :: is => match κ₀[i]?, (thK κ₀ κ is)[i]? with
    | some (.v F D), some (.v _ D') => (thK κ₀ κ is).set i (.v F (D && D'))
    | _, _ => thK κ₀ κ is
def thOk (κ₀ κ : KEnv) (is : List Nat) : Bool := is.all fun i => match κ₀[i]?, κ[i]? with
  | some (.v _ _), some (.v _ _) => true
  | some .b, some .b => true
  | some .l, some .l => true
  | _, _ => false
def noVar : CE → Bool
  | .var _ => false
  | _ => true
/-- the defs: their parameters, whether a list answered is the caller's alone -/
structure Sg where
  ps : List Kd
  rf : Bool
abbrev Sgs := List Sg
abbrev KR := KEnv × Bool × Bool
def okK (o : Option KEnv) (F D : Bool) : Option KR := o.map fun κ => (κ, F, D)
/-- it is read at once -/
def kPx (e : CE) (r : Option KR) : Option KEnv := r.bind fun x => if pkK x.1 e then some x.1 else none
/-- it is read later -/
def kQx (e : CE) (m : List Nat) (r : Option KR) : Option KEnv := r.bind fun x => if calmK e m then some x.1 else none
/-- two that are read together -/
def k2x (a b : CE) (r : Option KR) (g : KEnv → Option KR) : Option KEnv := (kQx a (mutE b) r).bind fun κ1 => (g κ1).bind fun x => if pkK x.1 a && pkK x.1 b then some x.1 else none
/-- it is data from then on -/
def kFx (e : CE) (κ : KEnv) (r : Option KR) : Option KEnv := match e with
  | .var i => frzK κ i
  | _ => r.map (·.1)
/-- it is no other slot's from then on -/
def kSx (e : CE) (κ : KEnv) (r : Option KR) : Option KR := match e with
  | .var i => okK (frzK κ i) false true
  | _ => r
mutual
def kE (sg : Sgs) : CE → KEnv → Option KR
  | .var i, κ => match κ[i]? with
    | some _ => some (κ, false, false)
    | none => none
  | .con _, κ => some (κ, true, true)
  | .tup es, κ => okK (kFs sg es κ) true true
  | .lst es, κ => okK (kFs sg es κ) true false
  | .bin _ a b, κ => okK (k2x a b (kE sg a κ) (kE sg b)) true false
  | .neg a, κ => okK (kPx a (kE sg a κ)) true true
  | .not a, κ => okK (kPx a (kE sg a κ)) true true
  | .and a b, κ => (kSx a (κ) (kE sg a (κ))).bind fun x => (kSx b (x.1) (kE sg b (x.1))).bind fun y => okK (jn x.1 y.1) (x.2.1 && y.2.1) (x.2.2 && y.2.2)
  | .or a b, κ => (kSx a (κ) (kE sg a (κ))).bind fun x => (kSx b (x.1) (kE sg b (x.1))).bind fun y => okK (jn x.1 y.1) (x.2.1 && y.2.1) (x.2.2 && y.2.2)
  | .ite c a b, κ => (kT sg c κ).bind fun κ0 => (kSx a (κ0) (kE sg a (κ0))).bind fun x => (kSx b (κ0) (kE sg b (κ0))).bind fun y => okK (jn x.1 y.1) (x.2.1 && y.2.1) (x.2.2 && y.2.2)
  | .cmp _ a b, κ => okK (k2x a b (kE sg a κ) (kE sg b)) true true
  | .cmp2 _ _ a b c, κ => (kQx a (mutE b) (kE sg a κ)).bind fun κ => (kFx b κ (kE sg b κ)).bind fun κ1 => if pkK κ1 a then (kPx c (kE sg c κ1)).bind fun κ2 => okK (jn κ1 κ2) true true else none
  | .sub a b, κ => okK (k2x a b (kE sg a κ) (kE sg b)) false true
  | .slc a lo hi, κ => (kE sg a κ).bind fun x => if calmK a (mutO lo ++ mutO hi) then okK ((kO sg lo x.1).bind fun κ => kO sg hi κ) true false else none
  | .rev a, κ => okK (kPx a (kE sg a κ)) true false
  | .call f rs es, κ => match sg[f]? with
    | some s => if decide ((lentE es rs).Nodup) then okK (kA sg es rs s.ps κ) s.rf false else none
    | none => none
  | .bi _ es, κ => okK (kPs sg es κ) true false
  | .isi a _, κ => okK (kPx a (kE sg a κ)) true true
  | .lstI it, κ => okK (kI sg it κ) true false
  | .tupI it, κ => okK (kI sg it κ) true true
  | .comp elt own _ it c, κ => (kI sg it κ).bind fun κ1 =>
      if own.all (datK κ1) then
        let bd := fun κ => (kT sg c κ).bind fun κ2 => (kFx elt κ2 (kE sg elt κ2)).bind fun κ3 => jn κ2 κ3
        let κs := setAll κ1 own (.v false true)
        (bd κs).bind fun κo => (jn κs κo).bind fun κi => (bd κi).bind fun κp => (jn κi κp).bind fun κj => if decide (κj = κi) && own.all (dat0 κi) then some (backK κ1 κi own, true, false) else none
      else none
  | .app i e, κ => if ownK κ i && !((mutE e).contains i) then (kFx e κ (kE sg e κ)).bind fun κ1 => if ownK κ1 i then some (κ1, true, true) else none else none
  | .ext i e, κ => if ownK κ i && !((mutE e).contains i) then (kFx e κ (kE sg e κ)).bind fun κ1 => if ownK κ1 i then some (κ1, true, true) else none else none
  | .pop i e, κ => if ownK κ i && !((mutO e).contains i) then (kO sg e κ).bind fun κ1 => if ownK κ1 i then some (κ1, false, true) else none else none
  | .thaw is e, κ => if (mutE e).isEmpty && noVar e then (kE sg e κ).bind fun x => if thOk κ x.1 is then some (thK κ x.1 is, true, true) else none else none
def kFs (sg : Sgs) : CEs → KEnv → Option KEnv
  | .nil, κ => some κ
  | .cons e es, κ => (kFx e κ (kE sg e κ)).bind fun κ => kFs sg es κ
def kPs (sg : Sgs) : CEs → KEnv → Option KEnv
  | .nil, κ => some κ
  | .cons e es, κ => (kQx e (mutEs es) (kE sg e κ)).bind fun κ => (kPs sg es κ).bind fun κ' => if pkK κ' e then some κ' else none
def kA (sg : Sgs) : CEs → List Bool → List Kd → KEnv → Option KEnv
  | .nil, _, [], κ => some κ
  | .cons e es, rs, p :: ps, κ => match p with
    | .v false true => if rs.headD false then none else (kFx e κ (kE sg e κ)).bind fun κ => kA sg es rs.tail ps κ
    | .v _ _ => none
    | .b => (match e with
      | .var i => if rs.headD false && ownK κ i then (kA sg es rs.tail ps κ).bind fun κ1 => if ownK κ1 i then some κ1 else none else none
      | _ => none)
    | .l => (match e with
      | .var i => if rs.headD false && decide (κ[i]? = some .l) then (kA sg es rs.tail ps κ).bind fun κ1 => if decide (κ1[i]? = some .l) then some κ1 else none else none
      | _ => none)
  | _, _, _, _ => none
def kO (sg : Sgs) : CEo → KEnv → Option KEnv
  | .none, κ => some κ
  | .some e, κ => kPx e (kE sg e κ)
def kT (sg : Sgs) : CT → KEnv → Option KEnv
  | .yes, κ => some κ
  | .val e, κ => kPx e (kE sg e κ)
  | .not t, κ => kT sg t κ
  | .and a b, κ => (kT sg a κ).bind fun κ1 => (kT sg b κ1).bind fun κ2 => jn κ1 κ2
  | .or a b, κ => (kT sg a κ).bind fun κ1 => (kT sg b κ1).bind fun κ2 => jn κ1 κ2
  | .ite c a b, κ => (kT sg c κ).bind fun κ0 => (kT sg a κ0).bind fun κ1 => (kT sg b κ0).bind fun κ2 => jn κ1 κ2
def kI (sg : Sgs) : CI → KEnv → Option KEnv
  | .seq e, κ => kFx e κ (kE sg e κ)
  | .rng1 e, κ => kPx e (kE sg e κ)
  | .rng2 a b, κ => k2x a b (kE sg a κ) (kE sg b)
  | .enum e, κ => kFx e κ (kE sg e κ)
  | .zip a b, κ => (kFx a κ (kE sg a κ)).bind fun κ => kFx b κ (kE sg b κ)
end
def kP (sg : Sgs) (e : CE) (κ : KEnv) : Option KEnv := kPx e (kE sg e κ)
def kF (sg : Sgs) (e : CE) (κ : KEnv) : Option KEnv := kFx e κ (kE sg e κ)
def kS (sg : Sgs) (e : CE) (κ : KEnv) : Option KR := kSx e κ (kE sg e κ)
/-- what is known behind a statement: where it goes on, behind a break, behind a continue -/
structure KO where
  nx : Option KEnv
  bk : Option KEnv
  ct : Option KEnv
def jo : Option KEnv → Option KEnv → Option (Option KEnv)
  | none, y => some y
  | x, none => some x
  | some x, some y => (jn x y).map some
def KO.jn (a b : KO) : Option KO := (jo a.nx b.nx).bind fun x => (jo a.bk b.bk).bind fun y => (jo a.ct b.ct).map fun z => ⟨x, y, z⟩
def nxK (o : Option KEnv) : Option KO := o.map fun κ => ⟨some κ, none, none⟩
/-- values of parallel stores -/
def kRs (sg : Sgs) : CEs → KEnv → Option (KEnv × List (Bool × Bool))
  | .nil, κ => some (κ, [])
  | .cons e es, κ => (kS sg e κ).bind fun x => (kRs sg es x.1).map fun y => (y.1, (x.2.1, x.2.2) :: y.2)
def kPts : List Tg → List (Bool × Bool) → KEnv → Option KEnv
  | [], [], κ => some κ
  | .name i :: ts, (F, D) :: r, κ => (putK κ i F D).bind fun κ => kPts ts r κ
  | _, _, _ => none
def allV (κ : KEnv) : Bool := κ.all fun k => match k with
  | .v _ _ => true
  | _ => false
/-- a loop's body, from κ, is at κ again -/
def kLoop (body : KEnv → Option KO) (κ : KEnv) : Option (KEnv × KO) :=
  (body κ).bind fun o => (jo (some κ) o.nx).bind fun x => (jo x o.ct).bind fun y => y.bind fun κi =>
    (body κi).bind fun p => (jo (some κi) p.nx).bind fun x => (jo x p.ct).bind fun z => if z = some κi then some (κi, p) else none
/-- what was lent stands as it was lent -/
def blOk : List Kd → KEnv → Bool
  | [], _ => true
  | .v _ _ :: ps, _ :: κ => blOk ps κ
  | .b :: ps, .b :: κ => blOk ps κ
  | .l :: ps, .l :: κ => blOk ps κ
  | _, _ => false
mutual
def kX (sg : Sgs) (rf : Bool) (ps : List Kd) : CS → KEnv → Option KO
  | .asg t e, κ => match t with
    | .name i => nxK ((kS sg e κ).bind fun x => putK x.1 i x.2.1 x.2.2)
    | t => nxK ((kF sg e κ).bind fun κ => tgK κ t)
  | .par ts es, κ => nxK ((kRs sg es κ).bind fun x => kPts ts x.2 x.1)
  | .setIx i ix e, κ => nxK ((kF sg e κ).bind fun κ1 => if ownK κ1 i && !((mutE ix).contains i) then (kP sg ix κ1).bind fun κ2 => if ownK κ2 i then some κ2 else none else none)
  | .aug i e, κ => nxK ((kP sg e κ).bind fun κ => putK κ i true true)
  | .expr e, κ => nxK ((kE sg e κ).map (·.1))
  | .ret e, κ => match e with
    | .var i => (match κ[i]? with
      | some (.v F _) => if (!rf || F) && blOk ps κ then some ⟨none, none, none⟩ else none
      | _ => none)
    | e => (kE sg e κ).bind fun x => if (!rf || x.2.1) && blOk ps x.1 then some ⟨none, none, none⟩ else none
  | .retN, κ => if blOk ps κ then some ⟨none, none, none⟩ else none
  | .ife c a b, κ => (kT sg c κ).bind fun κ1 => (kXs sg rf ps a κ1).bind fun x => (kXs sg rf ps b κ1).bind fun y => x.jn y
  | .whl c b, κ => (kLoop (fun κ => (kT sg c κ).bind fun κ1 => (kXs sg rf ps b κ1).bind fun x => some ⟨x.nx, some κ1, x.ct⟩ ) κ).bind fun x => (kT sg c x.1).bind fun κ1 => (kXs sg rf ps b κ1).bind fun y => (jo (some κ1) y.bk).map fun z => ⟨z, none, none⟩
  | .for t it b, κ => (kI sg it κ).bind fun κ0 => (kLoop (fun κ => (tgK κ t).bind fun κ1 => kXs sg rf ps b κ1) κ0).bind fun x => (jo (some x.1) x.2.bk).map fun z => ⟨z, none, none⟩
  | .rais _, _ => some ⟨none, none, none⟩
  | .try b _, κ => if allV ps then kXs sg rf ps b κ else none
  | .pass, κ => nxK (some κ)
  | .brk, κ => some ⟨none, some κ, none⟩
  | .cont, κ => some ⟨none, none, some κ⟩
def kXs (sg : Sgs) (rf : Bool) (ps : List Kd) : CSs → KEnv → Option KO
  | .nil, κ => nxK (some κ)
  | .cons s ss, κ => (kX sg rf ps s κ).bind fun x => match x.nx with
    | none => some x
    | some κ1 => (kXs sg rf ps ss κ1).bind fun y => KO.jn ⟨none, x.bk, x.ct⟩ y
end
def kFn (sg : Sgs) (s : Sg) (fd : FnD) : Bool := decide (s.ps.length = fd.np) && (match kXs sg s.rf s.ps fd.body (s.ps ++ List.replicate (fd.ns - fd.np) (.v true true)) with
  | some o => o.bk.isNone && o.ct.isNone && (match o.nx with
    | none => true
    | some κ => blOk s.ps κ)
  | none => false)
def kAll (sg : Sgs) : Sgs → List FnD → Bool
  | [], [] => true
  | s :: ss, d :: ds => kFn sg s d && kAll sg ss ds
  | _, _ => false
end Gn

/-! Gn, part Y: values alone are what the evaluator answers. -/
namespace Gn
open PySem

/-- the one list that is locked: the law's argument -/
class TheLok where
  xs : List PD
variable [TheLok]
def SlK : Kd → Option PD → Option Vl → Prop
  | .v _ _, d, none => d = none
  | .v F _, d, some (.val x) => d = some x ∧ (F = true → isLst x = false)
  | .v _ D, d, some (.own xs false) => d = some (.list xs) ∧ D = false
  | .b, d, some (.own xs true) => d = some (.list xs)
  | .l, d, some (.lok xs) => d = some (.list xs) ∧ xs = TheLok.xs
  | _, _, _ => False
def At : KEnv → DEnv → Env → Prop
  | [], [], [] => True
  | k :: κ, d :: δ, x :: ρ => SlK k d x ∧ At κ δ ρ
  | _, _, _ => False
theorem At.len : ∀ {κ : KEnv} {δ : DEnv} {ρ : Env}, At κ δ ρ → κ.length = δ.length ∧ δ.length = ρ.length
  | [], [], [], _ => ⟨rfl, rfl⟩
  | _ :: κ, _ :: δ, _ :: ρ, h => ⟨congrArg (· + 1) (At.len h.2).1, congrArg (· + 1) (At.len h.2).2⟩
theorem At.get : ∀ {κ : KEnv} {δ : DEnv} {ρ : Env} {i : Nat} {k : Kd}, At κ δ ρ → κ[i]? = some k → i < δ.length ∧ i < ρ.length ∧ SlK k (getD' δ i) (getS ρ i)
  | [], [], [], i, k, h, e => by simp at e
  | k' :: κ, d :: δ, x :: ρ, 0, k, h, e => by
    simp only [List.getElem?_cons_zero, Option.some.injEq] at e
    subst e
    exact ⟨Nat.zero_lt_succ _, Nat.zero_lt_succ _, h.1⟩
  | k' :: κ, d :: δ, x :: ρ, i + 1, k, h, e => by
    obtain ⟨h1, h2, h3⟩ := At.get (i := i) h.2 (by simpa using e)
    refine ⟨Nat.succ_lt_succ h1, Nat.succ_lt_succ h2, ?_⟩
    simpa only [getD', getS, List.getElem?_cons_succ] using h3
theorem At.set : ∀ {κ : KEnv} {δ : DEnv} {ρ : Env} {i : Nat} {k : Kd} {d : Option PD} {x : Option Vl}, At κ δ ρ → SlK k d x → At (κ.set i k) (δ.set i d) (ρ.set i x)
  | [], [], [], _, _, _, _, _, _ => trivial
  | _ :: κ, _ :: δ, _ :: ρ, 0, _, _, _, h, s => ⟨s, h.2⟩
  | _ :: κ, _ :: δ, _ :: ρ, i + 1, _, _, _, h, s => ⟨h.1, At.set (i := i) h.2 s⟩
/-- the values stay: only what slot i is known to be changes -/
theorem At.setR {κ : KEnv} {δ : DEnv} {ρ : Env} {i : Nat} {k : Kd} {x : Option Vl} (h : At κ δ ρ) (s : SlK k (getD' δ i) x) : At (κ.set i k) δ (ρ.set i x) := by
  have q := h.set (i := i) s
  have e : δ.set i (getD' δ i) = δ := by
    apply List.ext_getElem?
    intro j
    rw [List.getElem?_set]
    split
    · rename_i e
      subst e
      split
      · rename_i hi
        unfold getD'
        rw [List.getElem?_eq_getElem hi]
        rfl
      · rename_i hi
        rw [List.getElem?_eq_none (by omega)]
    · rfl
  rw [e] at q
  exact q
theorem SlK.jn {k k' k'' : Kd} {d : Option PD} {x : Option Vl} (h : SlK k d x) (e : k.jn k' = some k'' ∨ k'.jn k = some k'') : SlK k'' d x := by
  cases k with
  | b =>
    have : k'' = .b := by
      rcases e with e | e
      · cases k' <;> simp [Kd.jn] at e; exact e.symm
      · cases k' <;> simp [Kd.jn] at e; exact e.symm
    subst this; exact h
  | l =>
    have : k'' = .l := by
      rcases e with e | e
      · cases k' <;> simp [Kd.jn] at e; exact e.symm
      · cases k' <;> simp [Kd.jn] at e; exact e.symm
    subst this; exact h
  | v F D =>
    have : ∃ F' D', k'' = .v F' D' ∧ (F' = true → F = true) ∧ (D' = true → D = true) := by
      rcases e with e | e
      · cases k' <;> simp [Kd.jn] at e
        subst e
        exact ⟨_, _, rfl, fun h => (and2' h).1, fun h => (and2' h).1⟩
      · cases k' <;> simp [Kd.jn] at e
        subst e
        exact ⟨_, _, rfl, fun h => (and2' h).2, fun h => (and2' h).2⟩
    obtain ⟨F', D', rfl, hF, hD⟩ := this
    match x, h with
    | none, h => exact h
    | some (.val y), h => exact ⟨h.1, fun q => h.2 (hF q)⟩
    | some (.own xs false), h =>
      refine ⟨h.1, ?_⟩
      cases D' with
      | false => rfl
      | true =>
        have := hD rfl
        rw [h.2] at this
        cases this
where and2' {a b : Bool} (h : (a && b) = true) : a = true ∧ b = true := by simpa using h
theorem At.jnl : ∀ {κ κ' κ'' : KEnv} {δ : DEnv} {ρ : Env}, At κ δ ρ → jn κ κ' = some κ'' → At κ'' δ ρ
  | [], [], κ'', [], [], _, e => by cases e; trivial
  | k :: κ, [], κ'', d :: δ, x :: ρ, h, e => by simp [jn] at e
  | [], k :: κ', κ'', [], [], h, e => by simp [jn] at e
  | k :: κ, k' :: κ', κ'', d :: δ, x :: ρ, h, e => by
    simp only [jn] at e
    cases e1 : k.jn k' with
    | none => rw [e1] at e; simp at e
    | some z =>
      cases e2 : Gn.jn κ κ' with
      | none => rw [e1, e2] at e; simp at e
      | some zs =>
        rw [e1, e2] at e
        cases e
        exact ⟨h.1.jn (.inl e1), At.jnl h.2 e2⟩
theorem At.jnr : ∀ {κ κ' κ'' : KEnv} {δ : DEnv} {ρ : Env}, At κ δ ρ → jn κ' κ = some κ'' → At κ'' δ ρ
  | [], [], κ'', [], [], _, e => by cases e; trivial
  | k :: κ, [], κ'', d :: δ, x :: ρ, h, e => by simp [jn] at e
  | [], k :: κ', κ'', [], [], h, e => by simp [jn] at e
  | k :: κ, k' :: κ', κ'', d :: δ, x :: ρ, h, e => by
    simp only [jn] at e
    cases e1 : k'.jn k with
    | none => rw [e1] at e; simp at e
    | some z =>
      cases e2 : Gn.jn κ' κ with
      | none => rw [e1, e2] at e; simp at e
      | some zs =>
        rw [e1, e2] at e
        cases e
        exact ⟨h.1.jn (.inr e1), At.jnr h.2 e2⟩
/-! ### answers -/
/-- what an expression answers: a value of its own, or what slot i shows -/
def RvK (e : CE) (F D : Bool) (δ : DEnv) (r : Rv) (d : PD) : Prop := match r with
  | .v y => SlK (.v F D) (some d) (some y)
  | .al i => e = .var i ∧ getD' δ i = some d
def FnR (sg : Sgs) (φ : Fns) (ψ : DFns) : Prop := ∀ f s, sg[f]? = some s → ∀ (ds : List PD) (args : List Vl), At s.ps (ds.map some) (args.map some) → match ψ f ds with
  | .ok d outs => ∃ x outs', φ f args = .ok x outs' ∧ SlK (.v s.rf false) (some d) (some x) ∧ ∀ j k, s.ps[j]? = some k → (k = .b ∨ k = .l) → SlK k (getD' outs j) (getS outs' j)
  | .ex c => φ f args = .ex c
  | .bad => True
/-- what an expression's evaluation comes to -/
def Rn {α β : Type} (m : DM α) (f : M β) (κ' : KEnv) (R : α → DEnv → β → Prop) (δ : DEnv) (ρ : Env) : Prop := match m δ with
  | .ok d δ' => ∃ r ρ', f ρ = .ok r ρ' ∧ At κ' δ' ρ' ∧ R d δ' r
  | .ex c => ∃ ρ', f ρ = .ex c ρ'
  | .bad => True
theorem Rn.bind {α β γ ε : Type} {m : DM α} {f : M β} {κ1 κ2 : KEnv} {R : α → DEnv → β → Prop} {S : γ → DEnv → ε → Prop} {g : α → DM γ} {h : β → M ε} {δ : DEnv} {ρ : Env} (a : Rn m f κ1 R δ ρ)
    (b : ∀ d δ' r ρ', m δ = .ok d δ' → At κ1 δ' ρ' → R d δ' r → Rn (g d) (h r) κ2 S δ' ρ') : Rn (m.bind g) (f.bind h) κ2 S δ ρ := by
  unfold Rn at a ⊢
  unfold DM.bind M.bind
  cases e : m δ with
  | bad => simp only [e]
  | ex c =>
    rw [e] at a
    obtain ⟨ρ', a⟩ := a
    exact ⟨ρ', by simp only [a]⟩
  | ok d δ' =>
    rw [e] at a
    obtain ⟨r, ρ', e1, e2, e3⟩ := a
    have q := b d δ' r ρ' e e2 e3
    unfold Rn at q
    simp only [e1]
    exact q
theorem Rn.ret {α β : Type} {κ : KEnv} {R : α → DEnv → β → Prop} {d : α} {r : β} {δ : DEnv} {ρ : Env} (a : At κ δ ρ) (h : R d δ r) : Rn (DM.ret d) (M.ret r) κ R δ ρ := ⟨r, ρ, rfl, a, h⟩
end Gn

/-! Gn, part Z: what an expression changes. -/
namespace Gn
open PySem

def Fm (T : List Nat) (δ δ' : DEnv) : Prop := δ'.length = δ.length ∧ ∀ i, i ∉ T → getD' δ' i = getD' δ i
theorem Fm.rfl' {T : List Nat} {δ : DEnv} : Fm T δ δ := ⟨rfl, fun _ _ => rfl⟩
theorem Fm.trans {T : List Nat} {a b c : DEnv} (h : Fm T a b) (h' : Fm T b c) : Fm T a c := ⟨h'.1.trans h.1, fun i hi => (h'.2 i hi).trans (h.2 i hi)⟩
theorem Fm.mono {T T' : List Nat} {a b : DEnv} (h : Fm T a b) (s : ∀ i ∈ T, i ∈ T') : Fm T' a b := ⟨h.1, fun i hi => h.2 i fun z => hi (s i z)⟩
theorem getD'_set {δ : DEnv} {i j : Nat} {x : Option PD} (h : i ≠ j) : getD' (δ.set i x) j = getD' δ j := by
  unfold getD'
  rw [List.getElem?_set_ne h]
theorem getD'_set_self {δ : DEnv} {i : Nat} {x : Option PD} (h : i < δ.length) : getD' (δ.set i x) i = x := by
  unfold getD'
  rw [List.getElem?_set_self h]; rfl
theorem Fm.set {T : List Nat} {δ : DEnv} {i : Nat} {x : Option PD} (h : i ∈ T) : Fm T δ (δ.set i x) := ⟨List.length_set .., fun j hj => getD'_set fun e => hj (e ▸ h)⟩
def MF {α : Type} (T : List Nat) (m : DM α) : Prop := ∀ δ d δ', m δ = .ok d δ' → Fm T δ δ'
section
variable {α β : Type} {T : List Nat} {m : DM α} {f : α → DM β} {ψ : DFns}
theorem DM.bind_ok {δ δ' : DEnv} {b : β} (h : (m.bind f) δ = .ok b δ') : ∃ a δ1, m δ = .ok a δ1 ∧ f a δ1 = .ok b δ' := by
  unfold DM.bind at h
  cases e : m δ with
  | ok a δ1 => rw [e] at h; exact ⟨a, δ1, rfl, h⟩
  | ex c => rw [e] at h; cases h
  | bad => rw [e] at h; cases h
theorem MF.bind (h : MF T m) (g : ∀ a, MF T (f a)) : MF T (m.bind f) := fun δ d δ' e => by
  obtain ⟨a, δ1, e1, e2⟩ := DM.bind_ok e
  exact (h _ _ _ e1).trans (g a _ _ _ e2)
theorem MF.ret {a : α} : MF T (DM.ret a) := fun δ d δ' e => by cases e; exact Fm.rfl'
theorem MF.ofO {o : Option α} : MF T (DM.ofO o) := fun δ d δ' e => by
  cases o with
  | none => cases e
  | some a => cases e; exact Fm.rfl'
theorem MF.bad : MF T (DM.bad : DM α) := fun δ d δ' e => by cases e
theorem MF.mono {T' : List Nat} (h : MF T m) (s : ∀ i ∈ T, i ∈ T') : MF T' m := fun δ d δ' e => (h _ _ _ e).mono s
theorem MF.ite {k : Bool} {m' : DM α} (h : MF T m) (h' : MF T m') : MF T (if k then m else m') := by
  cases k
  · exact h'
  · exact h
theorem MF.rd {i : Nat} : MF T (rdD i) := fun δ d δ' e => by
  unfold rdD at e
  split at e
  · cases e; exact Fm.rfl'
  · cases e
theorem MF.chkL {i : Nat} : MF T (chkL i) := fun δ d δ' e => by
  unfold Gn.chkL at e
  split at e
  · cases e; exact Fm.rfl'
  · cases e
theorem app_l' {l r : List Nat} : ∀ i ∈ l, i ∈ l ++ r := fun _ h => List.mem_append_left _ h
theorem app_r' {l r : List Nat} : ∀ i ∈ r, i ∈ l ++ r := fun _ h => List.mem_append_right _ h
theorem Fm.backL : ∀ {as : List AR} {δ os : DEnv}, Fm (lentOf as) δ (backL δ as os)
  | [], _, _ => Fm.rfl'
  | .val _ :: r, δ, os => by
    simp only [Gn.backL]
    exact Fm.backL (as := r)
  | .ref i :: r, δ, os => by
    simp only [Gn.backL]
    exact ((Fm.backL (as := r)).mono fun _ h => List.mem_cons_of_mem _ h).trans (Fm.set (List.mem_cons_self ..))
theorem MF.callD {f : Nat} {as : List AR} (h : ∀ i ∈ lentOf as, i ∈ T) : MF T (callD ψ f as) := fun δ d δ' e => by
  unfold Gn.callD at e
  split at e
  · split at e
    · cases e; exact Fm.backL.mono h
    · cases e
    · cases e
  · cases e
theorem Fm.wipe {T : List Nat} {δ : DEnv} : ∀ {own : List Nat}, (∀ i ∈ own, i ∈ T) → Fm T δ (wipeD δ own)
  | [], _ => Fm.rfl'
  | i :: is, h => (Fm.wipe fun j hj => h j (List.mem_cons_of_mem _ hj)).trans (Fm.set (h i (List.mem_cons_self ..)))
mutual
theorem MF.dasg : ∀ {t : Tg} {d : PD}, (∀ i ∈ namesT t, i ∈ T) → MF T (dasg t d)
  | .name i, d, h => fun δ u δ' e => by
    simp only [Gn.dasg, wrD] at e
    split at e
    · cases e; exact Fm.set (h i (List.mem_cons_self ..))
    · cases e
  | .nil, d, h => by
    unfold Gn.dasg
    split
    all_goals first | exact MF.ret | exact MF.bad | (rename_i q; cases q)
  | .cons t ts, d, h => by
    cases d with
    | tuple ds =>
      cases ds with
      | nil => exact MF.bad
      | cons d ds =>
        simp only [Gn.dasg]
        exact (MF.dasg (t := t) fun i hi => h i (List.mem_append_left _ hi)).bind fun _ => MF.dasgL (t := ts) fun i hi => h i (List.mem_append_right _ hi)
    | _ => exact MF.bad
theorem MF.dasgL : ∀ {t : Tg} {ds : List PD}, (∀ i ∈ namesT t, i ∈ T) → MF T (dasgL t ds)
  | .name i, d, h => by
    cases d <;> exact MF.bad
  | .nil, d, h => by
    cases d with
    | nil => exact MF.ret
    | cons _ _ => exact MF.bad
  | .cons t ts, d, h => by
    cases d with
    | nil => exact MF.bad
    | cons d ds =>
      simp only [Gn.dasgL]
      exact (MF.dasg (t := t) fun i hi => h i (List.mem_append_left _ hi)).bind fun _ => MF.dasgL (t := ts) fun i hi => h i (List.mem_append_right _ hi)
end
theorem MF.comp {own : List Nat} {tg : Tg} {c : DM Bool} {el : DM PD} (hs : ∀ i ∈ namesT tg, i ∈ own) (hc : MF T c) (he : MF T el) : ∀ ds : List PD, MF (own ++ T) (compD own tg c el ds)
  | [] => MF.ret
  | d :: ds => fun δ u δ' e => by
    simp only [compD] at e
    refine (Fm.wipe (T := own ++ T) app_l').trans (MF.bind (T := own ++ T) (MF.dasg fun i hi => app_l' i (hs i hi)) (fun _ => (hc.mono app_r').bind fun k => MF.ite ?_ (MF.comp hs hc he ds)) _ _ _ e)
    exact (he.mono app_r').bind fun y => (MF.comp hs hc he ds).bind fun ys => MF.ret
theorem backD_get {δ₀ δ : DEnv} {j : Nat} : ∀ {own : List Nat}, j ∈ own → j < δ.length → getD' (backD δ₀ δ own) j = getD' δ₀ j
  | [], h, _ => absurd h List.not_mem_nil
  | i :: is, h, hl => by
    simp only [backD]
    by_cases e : i = j
    · subst e
      rw [getD'_set_self (by rw [backD_len]; exact hl)]
    · rw [getD'_set e]
      exact backD_get ((List.mem_cons.mp h).resolve_left fun q => e q.symm) hl
where backD_len {δ₀ δ : DEnv} : ∀ {own : List Nat}, (backD δ₀ δ own).length = δ.length
  | [] => rfl
  | i :: is => by simp only [backD, List.length_set]; exact backD_len
theorem backD_out {δ₀ δ : DEnv} {j : Nat} : ∀ {own : List Nat}, j ∉ own → getD' (backD δ₀ δ own) j = getD' δ j
  | [], _ => rfl
  | i :: is, h => by
    simp only [backD]
    have hne : i ≠ j := fun e => h (by rw [e]; exact List.mem_cons_self ..)
    rw [getD'_set hne]
    exact backD_out fun q => h (List.mem_cons_of_mem _ q)
theorem MF.compM {own : List Nat} {tg : Tg} {c : DM Bool} {el : DM PD} {ds : List PD} (hc : MF T c) (he : MF T el) : MF T (compDM own tg c el ds) := fun δ d δ' e => by
  unfold compDM at e
  split at e
  · rename_i hs
    have hs : ∀ i ∈ namesT tg, i ∈ own := fun i hi => by
      have := List.all_eq_true.mp hs i hi
      simpa using this
    cases q : compD own tg c el ds δ with
    | ok ys δ1 =>
      rw [q] at e
      cases e
      have f := MF.comp hs hc he ds _ _ _ q
      refine ⟨backD_get.backD_len.trans f.1, fun i hi => ?_⟩
      by_cases ho : i ∈ own
      · by_cases hl : i < δ1.length
        · exact backD_get ho hl
        · unfold getD'
          rw [List.getElem?_eq_none (by rw [backD_get.backD_len]; omega), List.getElem?_eq_none (by rw [← f.1]; omega)]
      · rw [backD_out ho]
        exact f.2 i fun q => (List.mem_append.mp q).elim ho hi
    | ex c => rw [q] at e; cases e
    | bad => rw [q] at e; cases e
  · cases e
mutual
theorem fr : ∀ e : CE, MF (mutE e) (de ψ e)
  | .var i => MF.rd
  | .con k => MF.ret
  | .tup es => by
    simp only [de, mutE]
    exact (frs es).bind fun _ => MF.ret
  | .lst es => by
    simp only [de, mutE]
    exact (frs es).bind fun _ => MF.ret
  | .bin o a b => by
    simp only [de, mutE]
    exact ((fr a).mono app_l').bind fun _ => ((fr b).mono app_r').bind fun _ => MF.ofO
  | .neg a => by
    simp only [de, mutE]
    exact (fr a).bind fun _ => MF.ofO
  | .not a => by
    simp only [de, mutE]
    exact (fr a).bind fun _ => MF.ofO.bind fun _ => MF.ret
  | .and a b => by
    simp only [de, mutE]
    exact ((fr a).mono app_l').bind fun _ => MF.ofO.bind fun k => MF.ite ((fr b).mono app_r') MF.ret
  | .or a b => by
    simp only [de, mutE]
    exact ((fr a).mono app_l').bind fun _ => MF.ofO.bind fun k => MF.ite MF.ret ((fr b).mono app_r')
  | .ite c a b => by
    simp only [de, mutE]
    exact ((frT c).mono app_l').bind fun k => MF.ite ((fr a).mono fun i h => app_r' i (app_l' i h)) ((fr b).mono fun i h => app_r' i (app_r' i h))
  | .cmp o a b => by
    simp only [de, mutE]
    exact ((fr a).mono app_l').bind fun _ => ((fr b).mono app_r').bind fun _ => MF.ofO.bind fun _ => MF.ret
  | .cmp2 o1 o2 a b c => by
    simp only [de, mutE]
    exact ((fr a).mono app_l').bind fun _ => ((fr b).mono fun i h => app_r' i (app_l' i h)).bind fun _ => MF.ofO.bind fun k => MF.ite (((fr c).mono fun i h => app_r' i (app_r' i h)).bind fun _ => MF.ofO.bind fun _ => MF.ret) MF.ret
  | .sub a b => by
    simp only [de, mutE]
    exact ((fr a).mono app_l').bind fun _ => ((fr b).mono app_r').bind fun _ => MF.ofO
  | .slc a lo hi => by
    simp only [de, mutE]
    exact ((fr a).mono app_l').bind fun _ => ((frO lo).mono fun i h => app_r' i (app_l' i h)).bind fun _ => ((frO hi).mono fun i h => app_r' i (app_r' i h)).bind fun _ => MF.ofO
  | .rev a => by
    simp only [de, mutE]
    exact (fr a).bind fun _ => MF.ofO
  | .call f rs es => fun δ d δ' e => by
    simp only [de] at e
    obtain ⟨as, δ1, e1, e2⟩ := DM.bind_ok e
    obtain ⟨h1, h2⟩ := frA es rs _ _ _ e1
    exact (h1.mono app_r').trans (MF.callD (fun i hi => app_l' i (h2 i hi)) _ _ _ e2)
  | .bi b es => by
    simp only [de, mutE]
    exact (frs es).bind fun _ => MF.ofO
  | .isi a ts => by
    simp only [de, mutE]
    exact (fr a).bind fun _ => MF.ret
  | .lstI it => by
    simp only [de, mutE]
    exact (frI it).bind fun _ => MF.ret
  | .tupI it => by
    simp only [de, mutE]
    exact (frI it).bind fun _ => MF.ret
  | .comp elt own tg it c => by
    simp only [de, mutE]
    exact ((frI it).mono app_l').bind fun ds => MF.compM ((frT c).mono fun i h => app_r' i (app_l' i h)) ((fr elt).mono fun i h => app_r' i (app_r' i h))
  | .app i e => by
    simp only [de, mutE]
    refine MF.chkL.bind fun _ => ((fr e).mono fun j h => List.mem_cons_of_mem _ h).bind fun d => fun δ u δ' q => ?_
    unfold appD at q
    split at q
    · split at q
      · cases q; exact Fm.set (List.mem_cons_self ..)
      · cases q
    · cases q
  | .ext i e => by
    simp only [de, mutE]
    refine MF.chkL.bind fun _ => ((fr e).mono fun j h => List.mem_cons_of_mem _ h).bind fun d => fun δ u δ' q => ?_
    unfold extD at q
    split at q
    · split at q
      · cases q; exact Fm.set (List.mem_cons_self ..)
      · cases q
    · cases q
  | .pop i e => by
    simp only [de, mutE]
    refine MF.chkL.bind fun _ => ((frO e).mono fun j h => List.mem_cons_of_mem _ h).bind fun d => fun δ u δ' q => ?_
    unfold popD at q
    split at q
    · split at q
      · split at q
        · split at q
          · cases q; exact Fm.set (List.mem_cons_self ..)
          · cases q
        · cases q
      · cases q
    · cases q
  | .thaw is e => by
    simp only [de, mutE]
    refine (fr e).bind fun d => ?_
    split
    · exact MF.ret
    · exact MF.bad
theorem frs : ∀ es : CEs, MF (mutEs es) (des ψ es)
  | .nil => MF.ret
  | .cons e es => by
    simp only [des, mutEs]
    exact ((fr e).mono app_l').bind fun _ => ((frs es).mono app_r').bind fun _ => MF.ret
theorem frA : ∀ (es : CEs) (rs : List Bool) (δ : DEnv) (as : List AR) (δ' : DEnv), dea ψ es rs δ = .ok as δ' → Fm (mutEs es) δ δ' ∧ ∀ i ∈ lentOf as, i ∈ lentE es rs
  | .nil, rs, δ, as, δ', h => by
    have h : DM.ret ([] : List AR) δ = .ok as δ' := h
    cases h
    exact ⟨Fm.rfl', fun i hi => absurd hi List.not_mem_nil⟩
  | .cons e es, rs, δ, as, δ', h => by
    have gen : ((de ψ e).bind fun d => (dea ψ es rs.tail).bind fun as => DM.ret (AR.val d :: as)) δ = .ok as δ' → Fm (mutEs (.cons e es)) δ δ' ∧ ∀ i ∈ lentOf as, i ∈ lentE es rs.tail := fun h => by
      obtain ⟨d, δ1, e1, h⟩ := DM.bind_ok h
      obtain ⟨bs, δ2, e2, h⟩ := DM.bind_ok h
      cases h
      obtain ⟨f1, f2⟩ := frA es rs.tail _ _ _ e2
      exact ⟨((fr e _ _ _ e1).mono app_l').trans (f1.mono app_r'), f2⟩
    cases e with
    | var i =>
      cases rs with
      | nil =>
        obtain ⟨g1, g2⟩ := gen h
        refine ⟨g1, fun j hj => ?_⟩
        have q : j ∈ lentE es [] := g2 j hj
        rw [lentE_nil] at q
        exact absurd q List.not_mem_nil
      | cons r rs =>
        cases r with
        | false => exact gen h
        | true =>
          have h : ((chkL i).bind fun _ => (dea ψ es rs).bind fun as => DM.ret (AR.ref i :: as)) δ = .ok as δ' := h
          obtain ⟨d, δ1, e1, h⟩ := DM.bind_ok h
          obtain ⟨bs, δ2, e2, h⟩ := DM.bind_ok h
          cases h
          obtain ⟨f1, f2⟩ := frA es rs _ _ _ e2
          refine ⟨(MF.chkL (T := mutEs (.cons (.var i) es)) _ _ _ e1).trans (f1.mono app_r'), fun j hj => ?_⟩
          show j ∈ i :: lentE es rs
          rcases List.mem_cons.mp hj with z | z
          · rw [z]; exact List.mem_cons_self ..
          · exact List.mem_cons_of_mem _ (f2 j z)
    | _ =>
      obtain ⟨g1, g2⟩ := gen h
      refine ⟨g1, fun j hj => ?_⟩
      have q := g2 j hj
      cases rs with
      | nil =>
        have q : j ∈ lentE es [] := q
        rw [lentE_nil] at q
        exact absurd q List.not_mem_nil
      | cons r rs => exact q
theorem frO : ∀ e : CEo, MF (mutO e) (deo ψ e)
  | .none => MF.ret
  | .some e => by
    simp only [deo, mutO]
    exact (fr e).bind fun _ => MF.ofO.bind fun _ => MF.ret
theorem frT : ∀ t : CT, MF (mutT t) (dt ψ t)
  | .yes => MF.ret
  | .val e => by
    simp only [dt, mutT]
    exact (fr e).bind fun _ => MF.ofO
  | .not t => by
    simp only [dt, mutT]
    exact (frT t).bind fun _ => MF.ret
  | .and a b => by
    simp only [dt, mutT]
    exact ((frT a).mono app_l').bind fun k => MF.ite ((frT b).mono app_r') MF.ret
  | .or a b => by
    simp only [dt, mutT]
    exact ((frT a).mono app_l').bind fun k => MF.ite MF.ret ((frT b).mono app_r')
  | .ite c a b => by
    simp only [dt, mutT]
    exact ((frT c).mono app_l').bind fun k => MF.ite ((frT a).mono fun i h => app_r' i (app_l' i h)) ((frT b).mono fun i h => app_r' i (app_r' i h))
theorem frI : ∀ it : CI, MF (mutI it) (dei ψ it)
  | .seq e => by
    simp only [dei, mutI]
    exact (fr e).bind fun _ => MF.ofO
  | .rng1 e => by
    simp only [dei, mutI]
    refine (fr e).bind fun d => ?_
    split
    · split
      · exact MF.ret
      · exact MF.bad
    · exact MF.bad
  | .rng2 a b => by
    simp only [dei, mutI]
    refine ((fr a).mono app_l').bind fun d => ((fr b).mono app_r').bind fun e => ?_
    split
    · split
      · exact MF.ret
      · exact MF.bad
    · exact MF.bad
  | .enum e => by
    simp only [dei, mutI]
    exact (fr e).bind fun _ => MF.ofO
  | .zip a b => by
    simp only [dei, mutI]
    exact ((fr a).mono app_l').bind fun _ => ((fr b).mono app_r').bind fun _ => MF.ofO
end
end
end Gn

/-! Go, part A: reading, freezing, storing, by kinds. -/
namespace Gn
open PySem
variable [TheLok]

section
variable {κ κ' : KEnv} {δ δ' : DEnv} {ρ : Env} {e : CE} {F D : Bool} {r : Rv} {d : PD} {i : Nat}
theorem At.kd (h : At κ δ ρ) (hi : getD' δ i = some d) : ∃ k, κ[i]? = some k := by
  have hl : i < δ.length := by
    unfold getD' at hi
    cases q : δ[i]? with
    | none => rw [q] at hi; cases hi
    | some x => exact (List.getElem?_eq_some_iff.mp q).1
  exact ⟨_, List.getElem?_eq_getElem (by rw [h.len.1]; exact hl)⟩
theorem SlK.vd {y : Vl} (h : SlK (.v F D) (some d) (some y)) : y.d = some d := by
  match y, h with
  | .val x, h => rw [h.1]; rfl
  | .own xs false, h => rw [h.1]; rfl
/-- a value shown is read -/
theorem peek_at (h : At κ δ ρ) (hr : RvK e F D δ r d) (hp : pkK κ e = true) : peekR r ρ = .ok d ρ := by
  match r, hr with
  | .v y, hr =>
    unfold peekR
    have q := SlK.vd hr
    simp only [q]
  | .al i, ⟨he, hi⟩ =>
    subst he
    obtain ⟨k, ek⟩ := h.kd hi
    obtain ⟨_, _, s⟩ := h.get ek
    rw [hi] at s
    unfold peekR
    simp only [pkK, ek, Bool.not_eq_true', beq_eq_false_iff_ne, ne_eq, Option.some.injEq] at hp
    cases hs : getS ρ i with
    | none =>
      rw [hs] at s
      cases k <;> first | cases s | exact s.elim
    | some y =>
      rw [hs] at s
      match k, y, s with
      | .v F D, .val x, s => simp only [hs, Vl.d]; rw [Option.some.inj s.1]
      | .v F D, .own xs false, s => simp only [hs, Vl.d]; rw [Option.some.inj s.1]
      | .b, .own xs true, s => simp only [hs, Vl.d]; rw [Option.some.inj s]
      | .l, .lok xs, s => exact absurd rfl hp
theorem peekC_at (h : At κ δ ρ) (hr : RvK e F D δ r d) : peekC r ρ = .ok d ρ := by
  match r, hr with
  | .v y, hr =>
    unfold peekC
    have q := SlK.vd hr
    simp only [q]
  | .al i, ⟨he, hi⟩ =>
    subst he
    obtain ⟨k, ek⟩ := h.kd hi
    obtain ⟨_, _, s⟩ := h.get ek
    rw [hi] at s
    unfold peekC
    cases hs : getS ρ i with
    | none =>
      rw [hs] at s
      cases k <;> first | cases s | exact s.elim
    | some y =>
      rw [hs] at s
      match k, y, s with
      | .v F D, .val x, s => simp only [hs, Vl.cut]; rw [Option.some.inj s.1]
      | .v F D, .own xs false, s => simp only [hs, Vl.cut]; rw [Option.some.inj s.1]
      | .b, .own xs true, s => simp only [hs, Vl.cut]; rw [Option.some.inj s]
      | .l, .lok xs, s => simp only [hs, Vl.cut]; rw [Option.some.inj s.1]
/-- meanwhile other slots alone changed -/
theorem RvK.step {T : List Nat} (hr : RvK e F D δ r d) (hm : calmK e T = true) (f : Fm T δ δ') : RvK e F D δ' r d := by
  match r, hr with
  | .v y, hr => exact hr
  | .al i, ⟨he, hi⟩ =>
    subst he
    refine ⟨rfl, ?_⟩
    rw [f.2 i (by simpa [calmK] using hm)]
    exact hi
theorem set_getS (hl : i < ρ.length) : ρ.set i (getS ρ i) = ρ := by
  apply List.ext_getElem?
  intro j
  by_cases e : i = j
  · subst e
    rw [List.getElem?_set_self hl]
    unfold getS
    rw [List.getElem?_eq_getElem hl]
    rfl
  · rw [List.getElem?_set_ne e]
/-- slot i frozen -/
theorem freeze_at (h : At κ δ ρ) (hk : frzK κ i = some κ') (hi : getD' δ i = some d) : ∃ ρ', freeze (.al i) ρ = .ok d ρ' ∧ At κ' δ ρ' := by
  obtain ⟨k, ek⟩ := h.kd hi
  obtain ⟨_, l2, s⟩ := h.get ek
  rw [hi] at s
  unfold frzK at hk
  rw [ek] at hk
  match k, hk with
  | .v F true, hk =>
    cases hk
    cases hs : getS ρ i with
    | none => rw [hs] at s; cases s
    | some y =>
      rw [hs] at s
      match y, s with
      | .val x, s =>
        refine ⟨ρ, ?_, h⟩
        unfold freeze
        simp only [hs]
        rw [Option.some.inj s.1]
      | .own xs false, s => cases s.2
  | .v F false, hk =>
    cases hk
    cases hs : getS ρ i with
    | none => rw [hs] at s; cases s
    | some y =>
      rw [hs] at s
      match y, s with
      | .val x, s =>
        have e1 : d = x := Option.some.inj s.1
        subst e1
        refine ⟨ρ, by unfold freeze; simp only [hs], ?_⟩
        have q := h.setR (i := i) (k := .v false true) (x := getS ρ i) (by rw [hi, hs]; exact ⟨rfl, fun z => nomatch z⟩)
        rw [set_getS l2] at q
        exact q
      | .own xs false, s =>
        have e1 : d = .list xs := Option.some.inj s.1
        subst e1
        refine ⟨ρ.set i (some (.val (.list xs))), by unfold freeze; simp only [hs], ?_⟩
        exact h.setR (by rw [hi]; exact ⟨rfl, fun z => nomatch z⟩)
/-- slot i takes a value -/
theorem put_at {y : Vl} (h : At κ δ ρ) (hk : putK κ i F D = some κ') (s : SlK (.v F D) (some d) (some y)) : putV i y ρ = .ok () (ρ.set i (some y)) ∧ wrD i d δ = .ok () (δ.set i (some d)) ∧ At κ' (δ.set i (some d)) (ρ.set i (some y)) := by
  unfold putK at hk
  cases ek : κ[i]? with
  | none => rw [ek] at hk; cases hk
  | some k =>
    rw [ek] at hk
    cases k with
    | v F' D' =>
      cases hk
      obtain ⟨l1, l2, s'⟩ := h.get ek
      refine ⟨?_, ?_, h.set s⟩
      · unfold putV
        have : free ρ i = true := by
          unfold free
          cases hs : getS ρ i with
          | none => simpa using l2
          | some z =>
            rw [hs] at s'
            match z, s' with
            | .val x, _ => simpa using l2
            | .own xs false, _ => simpa using l2
        rw [this]; rfl
      · unfold wrD
        rw [if_pos l1]
    | b => cases hk
    | l => cases hk
end
end Gn

/-! Go, part B: values alone are what the evaluator answers: expressions. -/
namespace Gn
open PySem
variable [TheLok]

section
variable {sg : Sgs} {φ : Fns} {ψ : DFns} {κ κ' : KEnv} {δ : DEnv} {ρ : Env} {e : CE} {F D : Bool}
/-- data, told -/
def IsV (F D : Bool) (d : PD) (_ : DEnv) (r : Rv) : Prop := ∃ y, r = .v y ∧ SlK (.v F D) (some d) (some y)
theorem RvK.noVar {e : CE} (hv : noVar e = true) {r : Rv} {d : PD} (h : RvK e F D δ r d) : ∃ y, r = .v y ∧ SlK (.v F D) (some d) (some y) := by
  match r, h with
  | .v y, h => exact ⟨y, rfl, h⟩
  | .al i, ⟨he, _⟩ => rw [he] at hv; cases hv
theorem sFx (hE : ∀ κ1 F D, kE sg e κ = some (κ1, F, D) → Rn (de ψ e) (ev φ e) κ1 (fun d δ' r => RvK e F D δ' r d) δ ρ) (hk : kFx e κ (kE sg e κ) = some κ') (h : At κ δ ρ) : Rn (de ψ e) ((ev φ e).bind freeze) κ' (fun d _ y => y = d) δ ρ := by
  by_cases hv : noVar e = true
  · have e1 : kFx e κ (kE sg e κ) = (kE sg e κ).map (·.1) := by cases e <;> first | rfl | cases hv
    rw [e1] at hk
    cases q : kE sg e κ with
    | none => rw [q] at hk; cases hk
    | some x =>
      rw [q] at hk
      cases hk
      have a := hE x.1 x.2.1 x.2.2 q
      rw [show de ψ e = (de ψ e).bind DM.ret from funext fun δ => by unfold DM.bind; cases de ψ e δ <;> rfl]
      refine Rn.bind a fun d δ' r ρ' _ at' hr => ?_
      obtain ⟨y, rfl, s⟩ := hr.noVar hv
      refine ⟨d, ρ', ?_, at', rfl⟩
      unfold freeze
      have := SlK.vd s
      simp only [this]
  · cases e with
    | var i =>
      show Rn (rdD i) ((readV i).bind freeze) κ' (fun d _ y => y = d) δ ρ
      unfold Rn rdD
      cases q : getD' δ i with
      | none => trivial
      | some d =>
        obtain ⟨ρ', f1, f2⟩ := freeze_at h hk q
        refine ⟨d, ρ', ?_, f2, rfl⟩
        unfold M.bind readV
        obtain ⟨k, ek⟩ := h.kd q
        obtain ⟨_, _, s⟩ := h.get ek
        rw [q] at s
        unfold freeze at f1
        cases hs : getS ρ i with
        | none => simp only [hs] at f1; cases f1
        | some y =>
          simp only [hs] at f1
          cases y with
          | val x => exact f1
          | own xs b => unfold freeze; simp only [hs]; exact f1
          | dic _ _ => cases f1
          | lok _ => cases f1
    | _ => exact absurd rfl hv
theorem sSx (hE : ∀ κ1 F D, kE sg e κ = some (κ1, F, D) → Rn (de ψ e) (ev φ e) κ1 (fun d δ' r => RvK e F D δ' r d) δ ρ) (hk : kSx e κ (kE sg e κ) = some (κ', F, D)) (h : At κ δ ρ) : Rn (de ψ e) ((ev φ e).bind settle) κ' (IsV F D) δ ρ := by
  by_cases hv : noVar e = true
  · have e1 : kSx e κ (kE sg e κ) = kE sg e κ := by cases e <;> first | rfl | cases hv
    rw [e1] at hk
    have a := hE _ _ _ hk
    rw [show de ψ e = (de ψ e).bind DM.ret from funext fun δ => by unfold DM.bind; cases de ψ e δ <;> rfl]
    refine Rn.bind a fun d δ' r ρ' _ at' hr => ?_
    obtain ⟨y, rfl, s⟩ := hr.noVar hv
    exact ⟨_, ρ', rfl, at', y, rfl, s⟩
  · cases e with
    | var i =>
      have hk : okK (frzK κ i) false true = some (κ', F, D) := hk
      unfold okK at hk
      cases hf : frzK κ i with
      | none => rw [hf] at hk; cases hk
      | some κ9 =>
        rw [hf] at hk
        simp only [Option.map_some, Option.some.injEq, Prod.mk.injEq] at hk
        obtain ⟨rfl, rfl, rfl⟩ := hk
        have a := sFx (φ := φ) (ψ := ψ) hE (e := .var i) hf h
        unfold Rn at a ⊢
        cases q : de ψ (.var i) δ with
        | bad => trivial
        | ex c =>
          rw [q] at a
          have q : rdD i δ = .ex c := q
          unfold rdD at q
          split at q <;> cases q
        | ok d δ' =>
          rw [q] at a
          obtain ⟨y, ρ', a1, a2, rfl⟩ := a
          refine ⟨.v (.val y), ρ', ?_, a2, .val y, rfl, rfl, fun z => nomatch z⟩
          have a1 : ((readV i).bind freeze) ρ = .ok y ρ' := a1
          show ((readV i).bind settle) ρ = _
          unfold M.bind at a1 ⊢
          cases hr : readV i ρ with
          | bad => rw [hr] at a1; cases a1
          | ex c ρ1 => rw [hr] at a1; cases a1
          | ok r ρ1 =>
            rw [hr] at a1
            cases r with
            | al j =>
              simp only [settle]
              unfold M.bind
              simp only [a1]
              rfl
            | v x =>
              have : ∃ d, x = .val d := by
                unfold readV at hr
                split at hr
                · cases hr; exact ⟨_, rfl⟩
                · cases hr
                · cases hr
              obtain ⟨d', rfl⟩ := this
              simp only [freeze, Vl.d] at a1
              cases a1
              rfl
    | _ => exact absurd rfl hv
theorem sPx (hE : ∀ κ1 F D, kE sg e κ = some (κ1, F, D) → Rn (de ψ e) (ev φ e) κ1 (fun d δ' r => RvK e F D δ' r d) δ ρ) (hk : kPx e (kE sg e κ) = some κ') : Rn (de ψ e) ((ev φ e).bind peekR) κ' (fun d _ y => y = d) δ ρ := by
  unfold kPx at hk
  cases q : kE sg e κ with
  | none => rw [q] at hk; cases hk
  | some x =>
    rw [q] at hk
    simp only [Option.bind_some] at hk
    split at hk
    · rename_i hp
      cases hk
      have a := hE x.1 x.2.1 x.2.2 q
      rw [show de ψ e = (de ψ e).bind DM.ret from funext fun δ => by unfold DM.bind; cases de ψ e δ <;> rfl]
      refine Rn.bind a fun d δ' r ρ' _ at' hr => ⟨d, ρ', peek_at at' hr hp, at', rfl⟩
    · cases hk
/-- an operation's answer -/
def okV (F D : Bool) : Vl → Prop
  | .val x => F = true → isLst x = false
  | .own _ false => D = false
  | _ => False
theorem Rn.ofV {z : Option Vl} (h : At κ δ ρ) (hz : ∀ y, z = some y → okV F D y) : Rn (DM.ofO (vd z)) ((M.ofO z).bind fun z => M.ret (.v z)) κ (IsV F D) δ ρ := by
  cases z with
  | none => trivial
  | some y =>
    have q := hz y rfl
    match y, q with
    | .val x, q => exact ⟨_, ρ, rfl, h, .val x, rfl, rfl, q⟩
    | .own xs false, q => exact ⟨_, ρ, rfl, h, .own xs false, rfl, rfl, q⟩
theorem Rn.imp {α β : Type} {m : DM α} {f : M β} {R S : α → DEnv → β → Prop} (a : Rn m f κ R δ ρ) (h : ∀ d δ' r, R d δ' r → S d δ' r) : Rn m f κ S δ ρ := by
  unfold Rn at a ⊢
  cases e : m δ with
  | bad => trivial
  | ex c => rw [e] at a; exact a
  | ok d δ' =>
    rw [e] at a
    obtain ⟨r, ρ', e1, e2, e3⟩ := a
    exact ⟨r, ρ', e1, e2, h _ _ _ e3⟩
theorem Rn.jnl {α β : Type} {m : DM α} {f : M β} {R : α → DEnv → β → Prop} {κ2 κ3 : KEnv} (a : Rn m f κ R δ ρ) (h : jn κ κ2 = some κ3) : Rn m f κ3 R δ ρ := by
  unfold Rn at a ⊢
  cases e : m δ with
  | bad => trivial
  | ex c => rw [e] at a; exact a
  | ok d δ' =>
    rw [e] at a
    obtain ⟨r, ρ', e1, e2, e3⟩ := a
    exact ⟨r, ρ', e1, e2.jnl h, e3⟩
theorem Rn.jnr {α β : Type} {m : DM α} {f : M β} {R : α → DEnv → β → Prop} {κ2 κ3 : KEnv} (a : Rn m f κ R δ ρ) (h : jn κ2 κ = some κ3) : Rn m f κ3 R δ ρ := by
  unfold Rn at a ⊢
  cases e : m δ with
  | bad => trivial
  | ex c => rw [e] at a; exact a
  | ok d δ' =>
    rw [e] at a
    obtain ⟨r, ρ', e1, e2, e3⟩ := a
    exact ⟨r, ρ', e1, e2.jnr h, e3⟩
end
end Gn

/-! Go, part C: the answers of operations. -/
namespace Gn
open PySem
variable [TheLok]

theorem ok_bin {o : BOp} {a b : PD} : ∀ y, binD o a b = some y → okV true false y := fun y h => by
  unfold binD at h
  split at h <;> first
    | (cases h; first | exact fun _ => rfl | rfl)
    | (split at h <;> first | (cases h; first | exact fun _ => rfl | rfl) | cases h)
    | cases h
theorem ok_neg {a : PD} : ∀ y, negD a = some y → okV true true y := fun y h => by
  unfold negD at h
  split at h
  · cases h; exact fun _ => rfl
  · cases h
theorem ok_slc {a : PD} {l h : Option Int} : ∀ y, slcD a l h = some y → okV true false y := fun y h => by
  unfold slcD at h
  split at h <;> first | (cases h; first | exact fun _ => rfl | rfl) | cases h
theorem ok_rev {a : PD} : ∀ y, revD a = some y → okV true false y := fun y h => by
  unfold revD at h
  split at h <;> first | (cases h; first | exact fun _ => rfl | rfl) | cases h
theorem ok_bi {b : Bi} {ds : List PD} : ∀ y, biD b ds = some y → okV true false y := fun y h => by
  unfold biD at h
  split at h
  all_goals first
    | (cases h; first | exact fun _ => rfl | rfl)
    | (simp only [Option.map_eq_some_iff] at h; obtain ⟨_, _, rfl⟩ := h; first | exact fun _ => rfl | rfl)
    | cases h
theorem kc_lst : ∀ k : Kc, isLst k.d = false
  | .none => rfl
  | .bool _ => rfl
  | .int _ => rfl
  | .str _ => rfl
  | .tup _ => rfl
end Gn

/-! Go, part D: one after another. -/
namespace Gn
open PySem
variable [TheLok]

section
variable {sg : Sgs} {φ : Fns} {ψ : DFns} {κ κ' κ'' : KEnv} {δ : DEnv} {ρ : Env} {e a b : CE} {F D : Bool} {α β : Type} {S : α → DEnv → β → Prop}
/-- an expression is told, from a state -/
def Told (sg : Sgs) (φ : Fns) (ψ : DFns) (e : CE) (κ : KEnv) (δ : DEnv) (ρ : Env) : Prop := ∀ κ1 F D, kE sg e κ = some (κ1, F, D) → Rn (de ψ e) (ev φ e) κ1 (fun d δ' r => RvK e F D δ' r d) δ ρ
theorem cP {Gd : PD → DM α} {Gm : PD → M β} (hE : Told sg φ ψ e κ δ ρ) (hk : kPx e (kE sg e κ) = some κ') (g : ∀ d δ' ρ', At κ' δ' ρ' → Rn (Gd d) (Gm d) κ'' S δ' ρ') : Rn ((de ψ e).bind Gd) ((ev φ e).bind fun x => (peekR x).bind Gm) κ'' S δ ρ := by
  rw [← M.assoc]
  exact (sPx hE hk).bind fun d δ' r ρ' _ at' h => by
    subst h
    exact g _ δ' ρ' at'
theorem cF {Gd : PD → DM α} {Gm : PD → M β} (hE : Told sg φ ψ e κ δ ρ) (hk : kFx e κ (kE sg e κ) = some κ') (h : At κ δ ρ) (g : ∀ d δ' ρ', At κ' δ' ρ' → Rn (Gd d) (Gm d) κ'' S δ' ρ') : Rn ((de ψ e).bind Gd) ((ev φ e).bind fun x => (freeze x).bind Gm) κ'' S δ ρ := by
  rw [← M.assoc]
  exact (sFx hE hk h).bind fun d δ' r ρ' _ at' h => by
    subst h
    exact g _ δ' ρ' at'
theorem cS {Gd : PD → DM α} {Gm : Rv → M β} (hE : Told sg φ ψ e κ δ ρ) (hk : kSx e κ (kE sg e κ) = some (κ', F, D)) (h : At κ δ ρ) (g : ∀ d y δ' ρ', At κ' δ' ρ' → SlK (.v F D) (some d) (some y) → Rn (Gd d) (Gm (.v y)) κ'' S δ' ρ') : Rn ((de ψ e).bind Gd) ((ev φ e).bind fun x => (settle x).bind Gm) κ'' S δ ρ := by
  rw [← M.assoc]
  exact (sSx hE hk h).bind fun d δ' r ρ' _ at' ⟨y, h, s⟩ => by
    subst h
    exact g d y δ' ρ' at' s
theorem c2 {Gd : PD → PD → DM α} {Gm : PD → PD → M β} (ha : Told sg φ ψ a κ δ ρ) (hb : ∀ κ δ ρ, At κ δ ρ → Told sg φ ψ b κ δ ρ) (hk : k2x a b (kE sg a κ) (kE sg b) = some κ') (g : ∀ d e δ' ρ', At κ' δ' ρ' → Rn (Gd d e) (Gm d e) κ'' S δ' ρ') :
    Rn ((de ψ a).bind fun d => (de ψ b).bind fun e => Gd d e) ((ev φ a).bind fun x => (ev φ b).bind fun y => (peekR x).bind fun d => (peekR y).bind fun e => Gm d e) κ'' S δ ρ := by
  unfold k2x kQx at hk
  cases qa : kE sg a κ with
  | none => rw [qa] at hk; cases hk
  | some xa =>
    rw [qa] at hk
    simp only [Option.bind_some] at hk
    split at hk
    · rename_i hc
      simp only [Option.bind_some] at hk
      cases qb : kE sg b xa.1 with
      | none => rw [qb] at hk; cases hk
      | some xb =>
        rw [qb] at hk
        simp only [Option.bind_some] at hk
        split at hk
        · rename_i hp
          cases hk
          obtain ⟨p1, p2⟩ := and2 hp
          refine (ha xa.1 xa.2.1 xa.2.2 qa).bind fun d δ1 r ρ1 _ at1 hr => ?_
          refine (hb xa.1 δ1 ρ1 at1 xb.1 xb.2.1 xb.2.2 qb).bind fun e δ2 s ρ2 eq2 at2 hs => ?_
          have hr2 := hr.step hc (fr b _ _ _ eq2)
          have f1 := peek_at at2 hr2 p1
          have f2 := peek_at at2 hs p2
          have := g d e δ2 ρ2 at2
          unfold Rn at this ⊢
          have ev2 : ((peekR r).bind fun d => (peekR s).bind fun e => Gm d e) ρ2 = Gm d e ρ2 := by
            unfold M.bind
            simp only [f1, f2]
          rw [ev2]
          exact this
        · cases hk
    · cases hk
theorem Rn.ofO {o : Option α} {κ : KEnv} {R : α → DEnv → α → Prop} (h : At κ δ ρ) (hr : ∀ a, R a δ a) : Rn (DM.ofO o) (M.ofO o) κ R δ ρ := by
  cases o with
  | none => trivial
  | some a => exact ⟨a, ρ, rfl, h, hr a⟩
theorem Rn.rv {m : DM PD} {f : M Rv} (h : Rn m f κ (IsV F D) δ ρ) : Rn m f κ (fun d δ' r => RvK e F D δ' r d) δ ρ := h.imp fun d δ' r ⟨y, hy, s⟩ => by
  subst hy; exact s
end
end Gn

/-! Go, part F: targets, the turns of a comprehension. -/
namespace Gn
open PySem
variable [TheLok]

section
variable {κ κ' : KEnv} {δ δ' : DEnv} {ρ ρ' : Env}
mutual
theorem tg_at : ∀ (t : Tg) (d : PD) (κ : KEnv) (δ : DEnv) (ρ : Env) (κ' : KEnv), At κ δ ρ → tgK κ t = some κ' → Rn (dasg t d) (asgD t d) κ' (fun _ _ _ => True) δ ρ
  | .name i, d, κ, δ, ρ, κ', h, hk => by
    have s : SlK (.v false true) (some d) (some (.val d)) := ⟨rfl, fun z => nomatch z⟩
    obtain ⟨p1, p2, p3⟩ := put_at h hk s
    simp only [dasg, asgD]
    unfold Rn
    rw [p2]
    exact ⟨(), _, p1, p3, trivial⟩
  | .nil, d, κ, δ, ρ, κ', h, hk => by
    cases hk
    cases d with
    | tuple ds =>
      cases ds with
      | nil => exact ⟨(), ρ, rfl, h, trivial⟩
      | cons _ _ => trivial
    | _ => trivial
  | .cons t ts, d, κ, δ, ρ, κ', h, hk => by
    simp only [tgK] at hk
    cases e1 : tgK κ t with
    | none => rw [e1] at hk; cases hk
    | some κ1 =>
      rw [e1] at hk
      cases d with
      | tuple ds =>
        cases ds with
        | nil => trivial
        | cons d ds =>
          simp only [dasg, asgD]
          exact (tg_at t d κ δ ρ κ1 h e1).bind fun _ δ' _ ρ' _ h' _ => tgs_at ts ds κ1 δ' ρ' κ' h' hk
      | _ => trivial
theorem tgs_at : ∀ (t : Tg) (ds : List PD) (κ : KEnv) (δ : DEnv) (ρ : Env) (κ' : KEnv), At κ δ ρ → tgK κ t = some κ' → Rn (dasgL t ds) (asgL t ds) κ' (fun _ _ _ => True) δ ρ
  | .name i, ds, κ, δ, ρ, κ', h, hk => by
    cases ds <;> trivial
  | .nil, ds, κ, δ, ρ, κ', h, hk => by
    cases hk
    cases ds with
    | nil => exact ⟨(), ρ, rfl, h, trivial⟩
    | cons _ _ => trivial
  | .cons t ts, ds, κ, δ, ρ, κ', h, hk => by
    simp only [tgK] at hk
    cases e1 : tgK κ t with
    | none => rw [e1] at hk; cases hk
    | some κ1 =>
      rw [e1] at hk
      cases ds with
      | nil => trivial
      | cons d ds =>
        simp only [dasgL, asgL]
        exact (tg_at t d κ δ ρ κ1 h e1).bind fun _ δ' _ ρ' _ h' _ => tgs_at ts ds κ1 δ' ρ' κ' h' hk
end
/-- a comprehension's names are wiped -/
theorem wiped_at (h : At κ δ ρ) : ∀ own : List Nat, (∀ i ∈ own, dat0 κ i = true) → ∃ ρ', wipeE ρ own = some ρ' ∧ At κ (wipeD δ own) ρ'
  | [], _ => ⟨ρ, rfl, h⟩
  | i :: is, hd => by
    obtain ⟨ρ1, e1, a1⟩ := wiped_at h is fun j hj => hd j (List.mem_cons_of_mem _ hj)
    have hi : κ[i]? = some (.v false true) := of_decide_eq_true (hd i (List.mem_cons_self ..))
    obtain ⟨_, _, s⟩ := h.get hi
    have a2 : At κ ((wipeD δ is).set i none) (ρ1.set i none) := by
      have q := a1.set (i := i) (k := .v false true) (d := none) (x := none) rfl
      have e : κ.set i (.v false true) = κ := by
        apply List.ext_getElem?
        intro j
        by_cases e : i = j
        · subst e
          rw [hi, List.getElem?_set_self (List.getElem?_eq_some_iff.mp hi).1]
        · rw [List.getElem?_set_ne e]
      rw [e] at q
      exact q
    refine ⟨ρ1.set i none, ?_, a2⟩
    simp only [wipeE, e1]
    cases hs : getS ρ i with
    | none => rfl
    | some y =>
      rw [hs] at s
      match y, s with
      | .val x, s => rfl
      | .own xs false, s => cases s.2
theorem tg0 : ∀ t : Tg, (∀ i ∈ namesT t, dat0 κ i = true) → tgK κ t = some κ
  | .name i, h => by
    have hi : κ[i]? = some (.v false true) := of_decide_eq_true (h i (List.mem_cons_self ..))
    simp only [tgK, putK, hi]
    congr 1
    apply List.ext_getElem?
    intro j
    by_cases e : i = j
    · subst e
      rw [hi, List.getElem?_set_self (List.getElem?_eq_some_iff.mp hi).1]
    · rw [List.getElem?_set_ne e]
  | .nil, _ => rfl
  | .cons t ts, h => by
    simp only [tgK]
    rw [tg0 t fun i hi => h i (List.mem_append_left _ hi)]
    exact tg0 ts fun i hi => h i (List.mem_append_right _ hi)
/-- the turns -/
theorem turns_at {own : List Nat} {tg : Tg} {c : DM Bool} {el : DM PD} {c' : M Bool} {el' : M Rv} (h0 : ∀ i ∈ own, dat0 κ i = true) (hs : ∀ i ∈ namesT tg, i ∈ own)
    (body : ∀ δ ρ, At κ δ ρ → ∃ κ2 κ3, Rn c c' κ2 (fun k _ r => r = k) δ ρ ∧ (∀ δ ρ, At κ2 δ ρ → Rn el (el'.bind freeze) κ3 (fun d _ y => y = d) δ ρ) ∧ (∀ δ ρ, At κ2 δ ρ → At κ δ ρ) ∧ (∀ δ ρ, At κ3 δ ρ → At κ δ ρ)) :
    ∀ (ds : List PD) (δ : DEnv) (ρ : Env), At κ δ ρ → Rn (compD own tg c el ds) (compL own tg c' el' ds) κ (fun ys _ zs => zs = ys) δ ρ
  | [], δ, ρ, h => ⟨_, ρ, rfl, h, rfl⟩
  | d :: ds, δ, ρ, h => by
    obtain ⟨ρ1, e1, a1⟩ := wiped_at h own h0
    have ht := tg0 tg fun i hi => h0 i (hs i hi)
    have st : Rn ((dasg tg d).bind fun _ => c.bind fun k => if k then el.bind fun y => (compD own tg c el ds).bind fun ys => DM.ret (y :: ys) else compD own tg c el ds)
        ((asgD tg d).bind fun _ => c'.bind fun k => if k then el'.bind fun x => (freeze x).bind fun y => (compL own tg c' el' ds).bind fun ys => M.ret (y :: ys) else compL own tg c' el' ds) κ (fun ys _ zs => zs = ys) (wipeD δ own) ρ1 := by
      refine (tg_at tg d κ _ _ κ a1 ht).bind fun _ δ2 _ ρ2 _ a2 _ => ?_
      obtain ⟨κ2, κ3, b1, b2, b3, b4⟩ := body δ2 ρ2 a2
      refine b1.bind fun k δ3 r ρ3 _ a3 e => ?_
      subst e
      cases r with
      | true =>
        have q := (b2 δ3 ρ3 a3).bind (κ2 := κ) (S := fun (ys : List PD) (_ : DEnv) (zs : List PD) => zs = ys) (g := fun y => (compD own tg c el ds).bind fun ys => DM.ret (y :: ys)) (h := fun y => (compL own tg c' el' ds).bind fun ys => M.ret (y :: ys)) fun y δ4 y' ρ4 _ a4 e => by
          subst e
          exact (turns_at h0 hs body ds δ4 ρ4 (b4 _ _ a4)).bind fun ys δ5 zs ρ5 _ a5 e => by
            subst e
            exact ⟨_, ρ5, rfl, a5, rfl⟩
        rw [M.assoc] at q
        exact q
      | false => exact turns_at h0 hs body ds δ3 ρ3 (b3 _ _ a3)
    unfold Rn at st ⊢
    simp only [compD, compL, e1]
    exact st
/-- the names as they stood -/
theorem back_at {κ₀ : KEnv} {δ₀ : DEnv} {ρ₀ : Env} (h₀ : At κ₀ δ₀ ρ₀) (h : At κ δ ρ) : ∀ own : List Nat, (∀ i ∈ own, datK κ₀ i = true) → At (backK κ₀ κ own) (backD δ₀ δ own) (backE ρ₀ ρ own)
  | [], _ => h
  | i :: is, hd => by
    have ih := back_at h₀ h is fun j hj => hd j (List.mem_cons_of_mem _ hj)
    have hi := hd i (List.mem_cons_self ..)
    simp only [backK, backD, backE]
    unfold datK at hi
    cases e : κ₀[i]? with
    | none => rw [e] at hi; cases hi
    | some k =>
      obtain ⟨_, _, s⟩ := h₀.get e
      exact ih.set s
/-- the names' slots hold data -/
theorem setAll_at (h : At κ δ ρ) : ∀ own : List Nat, (∀ i ∈ own, datK κ i = true) → At (setAll κ own (.v false true)) δ ρ
  | [], _ => h
  | i :: is, hd => by
    have ih := setAll_at h is fun j hj => hd j (List.mem_cons_of_mem _ hj)
    have hi := hd i (List.mem_cons_self ..)
    unfold datK at hi
    cases e : κ[i]? with
    | none => rw [e] at hi; cases hi
    | some k =>
      rw [e] at hi
      obtain ⟨l1, l2, s⟩ := h.get e
      match k, hi with
      | .v F true, _ =>
        have s2 : SlK (.v false true) (getD' δ i) (getS ρ i) := by
          cases hs : getS ρ i with
          | none => rw [hs] at s; exact s
          | some y =>
            rw [hs] at s
            match y, s with
            | .val x, s => exact ⟨s.1, fun z => nomatch z⟩
            | .own xs false, s => cases s.2
        simp only [setAll]
        have q := ih.setR (i := i) s2
        rw [set_getS l2] at q
        exact q
end
end Gn

/-! Go, part E: expressions. -/
namespace Gn
open PySem
variable [TheLok]

section
variable {sg : Sgs} {φ : Fns} {ψ : DFns}
theorem M.bind_ret {α : Type} (m : M α) : (m.bind fun a => M.ret a) = m := by
  funext ρ
  unfold M.bind M.ret
  cases m ρ <;> rfl
theorem okK_eq {o : Option KEnv} {F D F' D' : Bool} {κ' : KEnv} (h : okK o F D = some (κ', F', D')) : o = some κ' ∧ F' = F ∧ D' = D := by
  unfold okK at h
  cases o with
  | none => cases h
  | some κ =>
    simp only [Option.map_some, Option.some.injEq, Prod.mk.injEq] at h
    obtain ⟨rfl, rfl, rfl⟩ := h
    exact ⟨rfl, rfl, rfl⟩
theorem bind_eq {α β : Type} {o : Option α} {f : α → Option β} {b : β} (h : o.bind f = some b) : ∃ a, o = some a ∧ f a = some b := by
  cases o with
  | none => cases h
  | some a => exact ⟨a, rfl, h⟩
theorem SlK.weak {F D F' D' : Bool} {d : Option PD} {x : Option Vl} (h : SlK (.v F D) d x) : SlK (.v (F && F') (D && D')) d x ∧ SlK (.v (F' && F) (D' && D)) d x := ⟨h.jn (k' := .v F' D') (.inl rfl), h.jn (k' := .v F' D') (.inr rfl)⟩
theorem bool_ok {κ : KEnv} {δ : DEnv} {ρ : Env} {k : Bool} (h : At κ δ ρ) : Rn (DM.ret (.bool k)) (M.ret (.v (.val (.bool k)))) κ (IsV true true) δ ρ := ⟨_, ρ, rfl, h, _, rfl, rfl, fun _ => rfl⟩
/-- a list of its own, told -/
theorem own_at {κ : KEnv} {δ : DEnv} {ρ : Env} {i : Nat} {xs : List PD} (h : At κ δ ρ) (ho : ownK κ i = true) (hi : getD' δ i = some (.list xs)) : ∃ b, getS ρ i = some (.own xs b) ∧ ∀ ys, At κ (δ.set i (some (.list ys))) (ρ.set i (some (.own ys b))) := by
  obtain ⟨k, ek⟩ := h.kd hi
  obtain ⟨_, _, s⟩ := h.get ek
  unfold ownK at ho
  rw [ek] at ho
  rw [hi] at s
  have back : ∀ {y : Vl} {ys : List PD}, SlK k (some (.list ys)) (some y) → At κ (δ.set i (some (.list ys))) (ρ.set i (some y)) := fun {y ys} s => by
    have q := h.set (i := i) s
    have e : κ.set i k = κ := by
      apply List.ext_getElem?
      intro j
      by_cases e : i = j
      · subst e
        rw [ek, List.getElem?_set_self (List.getElem?_eq_some_iff.mp ek).1]
      · rw [List.getElem?_set_ne e]
    rw [e] at q
    exact q
  cases hs : getS ρ i with
  | none =>
    rw [hs] at s
    cases k <;> first | cases s | exact s.elim
  | some y =>
    rw [hs] at s
    match k, y, s, ho with
    | .v true D, .val x, s, _ =>
      have := s.2 rfl
      rw [← Option.some.inj s.1] at this
      cases this
    | .v true D, .own zs false, s, _ =>
      have e : xs = zs := by
        have := s.1
        simpa using this
      subst e
      exact ⟨false, rfl, fun ys => back ⟨rfl, s.2⟩⟩
    | .b, .own zs true, s, _ =>
      have e : xs = zs := by
        have s : some (PyData.list xs) = some (.list zs) := s
        simpa using s
      subst e
      exact ⟨true, rfl, fun ys => back rfl⟩
theorem chk_at {α β : Type} {κ κ'' : KEnv} {δ : DEnv} {ρ : Env} {i : Nat} {Gd : DM α} {Gm : M β} {S : α → DEnv → β → Prop} (h : At κ δ ρ) (ho : ownK κ i = true) (g : Rn Gd Gm κ'' S δ ρ) : Rn ((chkL i).bind fun _ => Gd) ((chkOwn i).bind fun _ => Gm) κ'' S δ ρ := by
  unfold Rn at g ⊢
  cases q : getD' δ i with
  | none =>
    have : ((chkL i).bind fun _ => Gd) δ = .bad := by
      unfold DM.bind chkL
      simp only [q]
    rw [this]; trivial
  | some d =>
    cases d with
    | list xs =>
      obtain ⟨b, g1, _⟩ := own_at h ho q
      have e1 : ((chkL i).bind fun _ => Gd) δ = Gd δ := by
        unfold DM.bind chkL
        simp only [q]
      have e2 : ((chkOwn i).bind fun _ => Gm) ρ = Gm ρ := by
        unfold M.bind chkOwn
        simp only [g1]
      rw [e1, e2]
      exact g
    | _ =>
      have : ((chkL i).bind fun _ => Gd) δ = .bad := by
        unfold DM.bind chkL
        simp only [q]
      rw [this]; trivial
theorem app_at {κ : KEnv} {δ : DEnv} {ρ : Env} {i : Nat} {d : PD} (h : At κ δ ρ) (ho : ownK κ i = true) : Rn (appD i d) (appM i d) κ (IsV true true) δ ρ := by
  unfold Rn appD
  cases q : getD' δ i with
  | none => trivial
  | some x =>
    cases x with
    | list xs =>
      obtain ⟨b, g1, g2⟩ := own_at h ho q
      dsimp only
      split
      · rename_i e
        split at e
        · rename_i hl
          cases e
          refine ⟨.v (.val .none), _, ?_, g2 _, .val .none, rfl, rfl, fun _ => rfl⟩
          unfold appM
          simp only [g1]
          rw [if_pos hl]
        · cases e
      · rename_i e
        split at e <;> cases e
      · trivial
    | _ => trivial
theorem ext_at {κ : KEnv} {δ : DEnv} {ρ : Env} {i : Nat} {d : PD} (h : At κ δ ρ) (ho : ownK κ i = true) : Rn (extD i d) (extM i d) κ (IsV true true) δ ρ := by
  unfold Rn extD
  cases q : getD' δ i with
  | none => trivial
  | some x =>
    cases x with
    | list xs =>
      cases d with
      | list ys =>
        obtain ⟨b, g1, g2⟩ := own_at h ho q
        dsimp only
        split
        · rename_i e
          split at e
          · rename_i hl
            cases e
            refine ⟨.v (.val .none), _, ?_, g2 _, .val .none, rfl, rfl, fun _ => rfl⟩
            unfold extM
            simp only [g1]
            rw [if_pos hl]
          · cases e
        · rename_i e
          split at e <;> cases e
        · trivial
      | _ => trivial
    | _ => trivial
theorem pop_at {κ : KEnv} {δ : DEnv} {ρ : Env} {i : Nat} {k : Option Int} (h : At κ δ ρ) (ho : ownK κ i = true) : Rn (popD i k) (popM i k) κ (IsV false true) δ ρ := by
  unfold Rn popD
  cases q : getD' δ i with
  | none => trivial
  | some x =>
    cases x with
    | list xs =>
      obtain ⟨b, g1, g2⟩ := own_at h ho q
      dsimp only
      cases e1 : L2.ixN xs.length (k.getD (-1)) with
      | none => trivial
      | some j =>
        dsimp only
        cases e2 : xs[j]? with
        | none => trivial
        | some d =>
          dsimp only
          split
          · rename_i e
            split at e
            · rename_i hl
              cases e
              refine ⟨.v (.val d), _, ?_, g2 _, .val d, rfl, rfl, fun z => nomatch z⟩
              unfold popM
              simp only [g1, e1, e2]
              rw [if_pos hl]
            · cases e
          · rename_i e
            split at e <;> cases e
          · trivial
    | _ => trivial
theorem At.same {κ : KEnv} {δ : DEnv} {ρ : Env} {i : Nat} {k : Kd} (h : At κ δ ρ) (hl : i < ρ.length) (s : SlK k (getD' δ i) (getS ρ i)) : At (κ.set i k) δ ρ := by
  have q := h.setR (i := i) s
  rw [set_getS hl] at q
  exact q
theorem set_same {κ : KEnv} {i : Nat} {k : Kd} (e : κ[i]? = some k) : κ.set i k = κ := by
  apply List.ext_getElem?
  intro j
  by_cases e' : i = j
  · subst e'
    rw [e, List.getElem?_set_self (List.getElem?_eq_some_iff.mp e).1]
  · rw [List.getElem?_set_ne e']
/-- whether both are values, both lent, both locked -/
def alk : Option Kd → Option Kd → Bool
  | some (.v _ _), some (.v _ _) => true
  | some .b, some .b => true
  | some .l, some .l => true
  | _, _ => false
theorem thK_alk {κ₀ κ : KEnv} {j : Nat} : ∀ {is : List Nat}, alk κ₀[j]? κ[j]? = true → alk κ₀[j]? (thK κ₀ κ is)[j]? = true
  | [], h => h
  | i :: is, h => by
    have ih := thK_alk (is := is) h
    simp only [thK]
    split
    · rename_i F D F' D' e1 e2
      by_cases e : i = j
      · subst e
        rw [List.getElem?_set_self (List.getElem?_eq_some_iff.mp e2).1, e1]
        rfl
      · rw [List.getElem?_set_ne e]
        exact ih
    · exact ih
theorem thaw_at {κ κ' : KEnv} {δ δ' : DEnv} {ρ ρ' : Env} (h : At κ δ ρ) (h' : At κ' δ' ρ') (hd : ∀ i, getD' δ' i = getD' δ i) : ∀ is : List Nat, (∀ i ∈ is, alk κ[i]? κ'[i]? = true) → At (thK κ κ' is) δ' (thawE ρ ρ' is)
  | [], _ => h'
  | i :: is, ha => by
    have ih := thaw_at h h' hd is fun j hj => ha j (List.mem_cons_of_mem _ hj)
    have al := thK_alk (is := is) (ha i (List.mem_cons_self ..))
    simp only [thK, thawE]
    cases e1 : κ[i]? with
    | none => rw [e1] at al; cases al
    | some k =>
      cases e2 : (thK κ κ' is)[i]? with
      | none => rw [e1, e2] at al; cases k <;> cases al
      | some k' =>
        rw [e1, e2] at al
        obtain ⟨_, l2, s⟩ := h.get e1
        obtain ⟨m1, m2, s'⟩ := ih.get e2
        rw [← hd i] at s
        match k, k', al with
        | .b, .b, _ =>
          dsimp only
          cases hs : getS ρ i with
          | none => rw [hs] at s; exact s.elim
          | some y =>
            rw [hs] at s
            match y, s with
            | .own xs true, s =>
              have q := ih.setR (i := i) (k := .b) (x := some (.own xs true)) s
              rw [set_same e2] at q
              exact q
        | .l, .l, _ =>
          dsimp only
          cases hs : getS ρ i with
          | none => rw [hs] at s; exact s.elim
          | some y =>
            rw [hs] at s
            match y, s with
            | .lok xs, s => exact ih
        | .v F D, .v F' D', _ =>
          dsimp only
          cases hs : getS ρ i with
          | none =>
            rw [hs] at s
            have e3 : getD' δ' i = none := s
            refine ih.same m2 ?_
            rw [e3] at s' ⊢
            cases hy : getS (thawE ρ ρ' is) i with
            | none => rfl
            | some y =>
              rw [hy] at s'
              match y, s' with
              | .val x, s' => cases s'.1
              | .own xs false, s' => cases s'.1
          | some y =>
            rw [hs] at s
            match y, s with
            | .val x, s =>
              dsimp only
              refine ih.same m2 ?_
              rw [s.1] at s' ⊢
              cases hy : getS (thawE ρ ρ' is) i with
              | none => rw [hy] at s'; cases s'
              | some y =>
                rw [hy] at s'
                match y, s' with
                | .val x', s' =>
                  have e3 : x = x' := Option.some.inj s'.1
                  subst e3
                  exact ⟨rfl, s.2⟩
                | .own xs false, s' => exact ⟨s'.1, by rw [s'.2, Bool.and_false]⟩
            | .own xs false, s =>
              dsimp only
              exact ih.setR (i := i) ⟨s.1, by rw [s.2, Bool.false_and]⟩
/-! ### calls -/
def ArOk (κ : KEnv) : List Kd → List AR → Prop
  | [], [] => True
  | p :: ps, .val _ :: as => p = .v false true ∧ ArOk κ ps as
  | p :: ps, .ref i :: as => ((p = .b ∧ ownK κ i = true) ∨ (p = .l ∧ κ[i]? = some .l)) ∧ ArOk κ ps as
  | _, _ => False
theorem arVs_at {κ : KEnv} {δ : DEnv} {ρ : Env} (h : At κ δ ρ) : ∀ (ps : List Kd) (as : List AR) (ds : List PD), ArOk κ ps as → daVs δ as = some ds → ∃ vs, as.mapM (arV ρ) = some vs ∧ At ps (ds.map some) (vs.map some)
  | [], [], ds, _, e => by
    simp only [daVs, Option.some.injEq] at e
    subst e
    exact ⟨[], rfl, trivial⟩
  | [], _ :: _, _, q, _ => by cases q
  | _ :: _, [], _, q, _ => by cases q
  | p :: ps, .val d :: as, ds, q, e => by
    obtain ⟨rfl, q⟩ := q
    simp only [daVs, daV] at e
    cases e1 : daVs δ as with
    | none => rw [e1] at e; cases e
    | some ds' =>
      rw [e1] at e
      simp only [Option.some.injEq] at e
      subst e
      obtain ⟨vs, h1, h2⟩ := arVs_at h ps as ds' q e1
      refine ⟨.val d :: vs, ?_, ⟨rfl, fun z => nomatch z⟩, h2⟩
      rw [List.mapM_cons]
      simp only [arV, h1]
      rfl
  | p :: ps, .ref i :: as, ds, q, e => by
    obtain ⟨q0, q⟩ := q
    simp only [daVs, daV] at e
    cases e1 : daVs δ as with
    | none =>
      rw [e1] at e
      split at e <;> first | (cases e; done) | (rename_i e2; cases e2; done)
    | some ds' =>
      rw [e1] at e
      cases e0 : getD' δ i with
      | none => rw [e0] at e; cases e
      | some d =>
        rw [e0] at e
        cases d with
        | list xs =>
          simp only [Option.some.injEq] at e
          subst e
          obtain ⟨vs, h1, h2⟩ := arVs_at h ps as ds' q e1
          rcases q0 with ⟨rfl, ho⟩ | ⟨rfl, hl⟩
          · obtain ⟨b, g1, _⟩ := own_at h ho e0
            refine ⟨.own xs true :: vs, ?_, rfl, h2⟩
            rw [List.mapM_cons]
            simp only [arV, g1, h1]
            rfl
          · obtain ⟨_, _, s⟩ := h.get hl
            rw [e0] at s
            cases hs : getS ρ i with
            | none => rw [hs] at s; exact s.elim
            | some y =>
              rw [hs] at s
              match y, s with
              | .lok ys, s =>
                refine ⟨.lok ys :: vs, ?_, s, h2⟩
                rw [List.mapM_cons]
                simp only [arV, hs, h1]
                rfl
        | _ => cases e
theorem getD'_tail {os : DEnv} {j : Nat} : getD' os.tail j = getD' os (j + 1) := by
  cases os <;> simp [getD']
theorem getS_tail {os : Env} {j : Nat} : getS os.tail j = getS os (j + 1) := by
  cases os <;> simp [getS]
theorem getD'_head {os : DEnv} : getD' os 0 = os.headD none := by
  cases os <;> simp [getD']
theorem getS_head {os : Env} : getS os 0 = os.headD none := by
  cases os <;> simp [getS]
theorem back_call {κ : KEnv} {δ : DEnv} {ρ : Env} (h : At κ δ ρ) : ∀ (ps : List Kd) (as : List AR) (ds : List PD) (os : DEnv) (os' : List (Option Vl)), ArOk κ ps as → daVs δ as = some ds →
    (∀ j k, ps[j]? = some k → (k = .b ∨ k = .l) → SlK k (getD' os j) (getS os' j)) → At κ (backL δ as os) (backA ρ as os')
  | [], [], _, _, _, _, _, _ => h
  | [], _ :: _, _, _, _, q, _, _ => by cases q
  | _ :: _, [], _, _, _, q, _, _ => by cases q
  | p :: ps, .val d :: as, ds, os, os', q, e, hs => by
    simp only [daVs, daV] at e
    cases e1 : daVs δ as with
    | none => rw [e1] at e; cases e
    | some ds' =>
      exact back_call h ps as ds' os.tail os'.tail q.2 e1 fun j k e w => by
        have := hs (j + 1) k (by simpa using e) w
        rw [getD'_tail, getS_tail]
        exact this
  | p :: ps, .ref i :: as, ds, os, os', q, e, hs => by
    obtain ⟨q0, q⟩ := q
    simp only [daVs, daV] at e
    cases e1 : daVs δ as with
    | none =>
      rw [e1] at e
      split at e <;> first | (cases e; done) | (rename_i e2; cases e2; done)
    | some ds' =>
      rw [e1] at e
      cases e0 : getD' δ i with
      | none => rw [e0] at e; cases e
      | some d =>
        rw [e0] at e
        cases d with
        | list xs =>
          have ih := back_call h ps as ds' os.tail os'.tail q e1 fun j k e w => by
            have := hs (j + 1) k (by simpa using e) w
            rw [getD'_tail, getS_tail]
            exact this
          have h0 := hs 0 p rfl
          rw [getD'_head, getS_head] at h0
          show At κ ((backL δ as os.tail).set i (os.headD none)) ((backA ρ as os'.tail).set i (backS (getS ρ i) (os'.headD none)))
          revert h0
          generalize os'.headD none = o'
          generalize os.headD none = o
          intro h0
          obtain ⟨k, ek⟩ := h.kd e0
          obtain ⟨_, _, s⟩ := h.get ek
          rw [e0] at s
          rcases q0 with ⟨rfl, ho⟩ | ⟨rfl, hl⟩
          · obtain ⟨b, g, _⟩ := own_at h ho e0
            have h0 := h0 (.inl rfl)
            rw [g] at s
            rw [g]
            cases o' with
            | none => exact h0.elim
            | some y =>
              match y, h0 with
              | .own ys true, h0 =>
                have r := ih.set (i := i) (k := k) (d := o) (x := some (.own ys b)) (by
                  unfold ownK at ho
                  rw [ek] at ho
                  match k, b, s, ho with
                  | .v true D, false, s, _ => exact ⟨h0, s.2⟩
                  | .b, true, s, _ => exact h0)
                rw [set_same ek] at r
                exact r
          · have h0 := h0 (.inr rfl)
            rw [hl] at ek
            cases ek
            cases hy : getS ρ i with
            | none => rw [hy] at s; exact s.elim
            | some y =>
              rw [hy] at s
              match y, s with
              | .lok zs, s =>
                have r := ih.set (i := i) (k := .l) (d := o) (x := some (.lok zs)) (by
                  cases o' with
                  | none => exact h0.elim
                  | some y' =>
                    match y', h0 with
                    | .lok ws, h0 =>
                      refine ⟨?_, s.2⟩
                      rw [h0.1, h0.2, s.2])
                rw [set_same hl] at r
                exact r
        | _ => cases e
theorem dea_val {e : CE} {es : CEs} {rs : List Bool} (h : rs.headD false = false) : dea ψ (.cons e es) rs = ((de ψ e).bind fun d => (dea ψ es rs.tail).bind fun as => DM.ret (.val d :: as)) ∧ evas φ (.cons e es) rs = ((ev φ e).bind fun x => (freeze x).bind fun d => (evas φ es rs.tail).bind fun as => M.ret (.val d :: as)) ∧ lentE (.cons e es) rs = lentE es rs.tail := by
  cases rs with
  | nil =>
    refine ⟨?_, ?_, ?_⟩
    · cases e <;> simp only [dea]
    · cases e <;> simp only [evas]
    · cases e <;> cases es <;> simp only [lentE, List.tail_nil]
      all_goals rename_i e es; cases e <;> simp only [lentE]
  | cons r rs =>
    have : r = false := h
    subst this
    refine ⟨?_, ?_, ?_⟩
    · cases e <;> simp only [dea]
    · cases e <;> simp only [evas]
    · cases e <;> simp only [lentE, List.tail_cons]
mutual
theorem sK (FR : FnR sg φ ψ) : ∀ (e : CE) (κ : KEnv) (δ : DEnv) (ρ : Env), At κ δ ρ → Told sg φ ψ e κ δ ρ
  | .var i, κ, δ, ρ, h, κ1, F, D, hk => by
    simp only [kE] at hk
    cases ek : κ[i]? with
    | none => rw [ek] at hk; cases hk
    | some k =>
      rw [ek] at hk
      simp only [Option.some.injEq, Prod.mk.injEq] at hk
      obtain ⟨rfl, rfl, rfl⟩ := hk
      show Rn (rdD i) (readV i) κ _ δ ρ
      unfold Rn rdD
      cases q : getD' δ i with
      | none => trivial
      | some d =>
        obtain ⟨_, _, s⟩ := h.get ek
        rw [q] at s
        cases hs : getS ρ i with
        | none =>
          rw [hs] at s
          cases k <;> first | cases s | exact s.elim
        | some y =>
          rw [hs] at s
          have al : ∀ r, (r = Rv.al i) → RvK (.var i) false false δ r d := fun r e => by
            subst e; exact ⟨rfl, q⟩
          match k, y, s with
          | .v F D, .val x, s =>
            refine ⟨.v (.val x), ρ, by unfold readV; simp only [hs], h, ?_⟩
            exact ⟨s.1, fun z => nomatch z⟩
          | .v F D, .own xs false, s => exact ⟨.al i, ρ, by unfold readV; simp only [hs], h, al _ rfl⟩
          | .b, .own xs true, s => exact ⟨.al i, ρ, by unfold readV; simp only [hs], h, al _ rfl⟩
          | .l, .lok xs, s => exact ⟨.al i, ρ, by unfold readV; simp only [hs], h, al _ rfl⟩
  | .con c, κ, δ, ρ, h, κ1, F, D, hk => by
    simp only [kE, Option.some.injEq, Prod.mk.injEq] at hk
    obtain ⟨rfl, rfl, rfl⟩ := hk
    exact ⟨.v (.val c.d), ρ, rfl, h, rfl, fun _ => kc_lst c⟩
  | .bin o a b, κ, δ, ρ, h, κ1, F, D, hk => by
    simp only [kE] at hk
    obtain ⟨hq, rfl, rfl⟩ := okK_eq hk
    simp only [de, ev]
    exact (c2 (sK FR a κ δ ρ h) (fun κ δ ρ h => sK FR b κ δ ρ h) hq fun d e δ' ρ' h' => Rn.ofV h' ok_bin).rv
  | .neg a, κ, δ, ρ, h, κ1, F, D, hk => by
    simp only [kE] at hk
    obtain ⟨hq, rfl, rfl⟩ := okK_eq hk
    simp only [de, ev]
    exact (cP (sK FR a κ δ ρ h) hq fun d δ' ρ' h' => Rn.ofV h' ok_neg).rv
  | .not a, κ, δ, ρ, h, κ1, F, D, hk => by
    simp only [kE] at hk
    obtain ⟨hq, rfl, rfl⟩ := okK_eq hk
    simp only [de, ev]
    exact (cP (sK FR a κ δ ρ h) hq fun d δ' ρ' h' => (Rn.ofO (R := fun a _ b => b = a) h' fun _ => rfl).bind fun k δ'' r ρ'' _ h2 e => by
      subst e; exact bool_ok h2).rv
  | .rev a, κ, δ, ρ, h, κ1, F, D, hk => by
    simp only [kE] at hk
    obtain ⟨hq, rfl, rfl⟩ := okK_eq hk
    simp only [de, ev]
    exact (cP (sK FR a κ δ ρ h) hq fun d δ' ρ' h' => Rn.ofV h' ok_rev).rv
  | .isi a ts, κ, δ, ρ, h, κ1, F, D, hk => by
    simp only [kE] at hk
    obtain ⟨hq, rfl, rfl⟩ := okK_eq hk
    simp only [de, ev]
    exact (cP (sK FR a κ δ ρ h) hq fun d δ' ρ' h' => bool_ok h').rv
  | .cmp o a b, κ, δ, ρ, h, κ1, F, D, hk => by
    simp only [kE] at hk
    obtain ⟨hq, rfl, rfl⟩ := okK_eq hk
    simp only [de, ev]
    exact (c2 (sK FR a κ δ ρ h) (fun κ δ ρ h => sK FR b κ δ ρ h) hq fun d e δ' ρ' h' => (Rn.ofO (R := fun a _ b => b = a) h' fun _ => rfl).bind fun k δ'' r ρ'' _ h2 e => by
      subst e; exact bool_ok h2).rv
  | .sub a b, κ, δ, ρ, h, κ1, F, D, hk => by
    simp only [kE] at hk
    obtain ⟨hq, rfl, rfl⟩ := okK_eq hk
    simp only [de, ev]
    refine (c2 (sK FR a κ δ ρ h) (fun κ δ ρ h => sK FR b κ δ ρ h) hq fun d e δ' ρ' h' => ?_).rv
    cases subD d e with
    | none => trivial
    | some z => exact ⟨_, ρ', rfl, h', _, rfl, rfl, fun z => nomatch z⟩
  | .tup es, κ, δ, ρ, h, κ1, F, D, hk => by
    simp only [kE] at hk
    obtain ⟨hq, rfl, rfl⟩ := okK_eq hk
    simp only [de, ev]
    exact (sFs FR es κ δ ρ κ1 h hq).bind fun ds δ' ys ρ' _ h' e => by
      subst e
      exact ⟨_, ρ', rfl, h', rfl, fun _ => rfl⟩
  | .lst es, κ, δ, ρ, h, κ1, F, D, hk => by
    simp only [kE] at hk
    obtain ⟨hq, rfl, rfl⟩ := okK_eq hk
    simp only [de, ev]
    exact (sFs FR es κ δ ρ κ1 h hq).bind fun ds δ' ys ρ' _ h' e => by
      subst e
      exact ⟨_, ρ', rfl, h', rfl, rfl⟩
  | .and a b, κ, δ, ρ, h, κ1, F, D, hk => by
    simp only [kE] at hk
    obtain ⟨⟨κa, Fa, Da⟩, ha, hk⟩ := bind_eq hk
    obtain ⟨⟨κb, Fb, Db⟩, hb, hk⟩ := bind_eq hk
    obtain ⟨hq, rfl, rfl⟩ := okK_eq hk
    simp only [de, ev]
    refine (cS (sK FR a κ δ ρ h) ha h fun d y δ' ρ' h' s => ?_).rv
    have pk : peekR (.v y) ρ' = .ok d ρ' := by
      have := SlK.vd s
      unfold peekR
      simp only [this]
    have st : Rn ((DM.ofO (truD d)).bind fun k => if k then de ψ b else DM.ret d) ((M.ofO (truD d)).bind fun k => if k then (ev φ b).bind settle else M.ret (.v y)) κ1 (IsV (Fa && Fb) (Da && Db)) δ' ρ' := by
      refine (Rn.ofO (R := fun a _ b => b = a) h' fun _ => rfl).bind fun k δ'' r ρ'' _ h2 e => ?_
      subst e
      cases r with
      | true =>
        have q := (sSx (sK FR b κa δ'' ρ'' h2) hb h2).jnr hq
        exact q.imp fun d δ r ⟨y, e, s⟩ => ⟨y, e, s.weak.2⟩
      | false => exact ⟨_, ρ'', rfl, h2.jnl hq, y, rfl, s.weak.1⟩
    unfold Rn at st ⊢
    have e2 : ((peekR (.v y)).bind fun d => (M.ofO (truD d)).bind fun k => if k then (ev φ b).bind settle else M.ret (.v y)) ρ' = ((M.ofO (truD d)).bind fun k => if k then (ev φ b).bind settle else M.ret (.v y)) ρ' := by
      conv => lhs; unfold M.bind
      simp only [pk]
      rfl
    rw [e2]
    exact st
  | .or a b, κ, δ, ρ, h, κ1, F, D, hk => by
    simp only [kE] at hk
    obtain ⟨⟨κa, Fa, Da⟩, ha, hk⟩ := bind_eq hk
    obtain ⟨⟨κb, Fb, Db⟩, hb, hk⟩ := bind_eq hk
    obtain ⟨hq, rfl, rfl⟩ := okK_eq hk
    simp only [de, ev]
    refine (cS (sK FR a κ δ ρ h) ha h fun d y δ' ρ' h' s => ?_).rv
    have pk : peekR (.v y) ρ' = .ok d ρ' := by
      have := SlK.vd s
      unfold peekR
      simp only [this]
    have st : Rn ((DM.ofO (truD d)).bind fun k => if k then DM.ret d else de ψ b) ((M.ofO (truD d)).bind fun k => if k then M.ret (.v y) else (ev φ b).bind settle) κ1 (IsV (Fa && Fb) (Da && Db)) δ' ρ' := by
      refine (Rn.ofO (R := fun a _ b => b = a) h' fun _ => rfl).bind fun k δ'' r ρ'' _ h2 e => ?_
      subst e
      cases r with
      | false =>
        have q := (sSx (sK FR b κa δ'' ρ'' h2) hb h2).jnr hq
        exact q.imp fun d δ r ⟨y, e, s⟩ => ⟨y, e, s.weak.2⟩
      | true => exact ⟨_, ρ'', rfl, h2.jnl hq, y, rfl, s.weak.1⟩
    unfold Rn at st ⊢
    have e2 : ((peekR (.v y)).bind fun d => (M.ofO (truD d)).bind fun k => if k then M.ret (.v y) else (ev φ b).bind settle) ρ' = ((M.ofO (truD d)).bind fun k => if k then M.ret (.v y) else (ev φ b).bind settle) ρ' := by
      conv => lhs; unfold M.bind
      simp only [pk]
      rfl
    rw [e2]
    exact st
  | .ite c a b, κ, δ, ρ, h, κ1, F, D, hk => by
    simp only [kE] at hk
    obtain ⟨κc, hc, hk⟩ := bind_eq hk
    obtain ⟨⟨κa, Fa, Da⟩, ha, hk⟩ := bind_eq hk
    obtain ⟨⟨κb, Fb, Db⟩, hb, hk⟩ := bind_eq hk
    obtain ⟨hq, rfl, rfl⟩ := okK_eq hk
    simp only [de, ev]
    refine ((sTt FR c κ δ ρ κc h hc).bind fun k δ' r ρ' _ h' e => ?_ : Rn _ _ κ1 (IsV (Fa && Fb) (Da && Db)) δ ρ).rv
    subst e
    cases r with
    | true =>
      have q := (sSx (sK FR a κc δ' ρ' h') ha h').jnl hq
      exact q.imp fun d δ r ⟨y, e, s⟩ => ⟨y, e, s.weak.1⟩
    | false =>
      have q := (sSx (sK FR b κc δ' ρ' h') hb h').jnr hq
      exact q.imp fun d δ r ⟨y, e, s⟩ => ⟨y, e, s.weak.2⟩
  | .lstI it, κ, δ, ρ, h, κ1, F, D, hk => by
    simp only [kE] at hk
    obtain ⟨hq, rfl, rfl⟩ := okK_eq hk
    simp only [de, ev]
    exact (sIt FR it κ δ ρ κ1 h hq).bind fun ds δ' ys ρ' _ h' e => by
      subst e
      exact ⟨_, ρ', rfl, h', rfl, rfl⟩
  | .tupI it, κ, δ, ρ, h, κ1, F, D, hk => by
    simp only [kE] at hk
    obtain ⟨hq, rfl, rfl⟩ := okK_eq hk
    simp only [de, ev]
    exact (sIt FR it κ δ ρ κ1 h hq).bind fun ds δ' ys ρ' _ h' e => by
      subst e
      exact ⟨_, ρ', rfl, h', rfl, fun _ => rfl⟩
  | .cmp2 o1 o2 a b c, κ, δ, ρ, h, κ1, F, D, hk => by
    simp only [kE] at hk
    obtain ⟨κa, ha, hk⟩ := bind_eq hk
    obtain ⟨κb, hb, hk⟩ := bind_eq hk
    split at hk
    · rename_i hp
      obtain ⟨κc, hc, hk⟩ := bind_eq hk
      obtain ⟨hq, rfl, rfl⟩ := okK_eq hk
      unfold kQx at ha
      obtain ⟨xa, qa, ha⟩ := bind_eq ha
      split at ha
      · rename_i hm
        cases ha
        simp only [de, ev]
        refine ((sK FR a κ δ ρ h xa.1 xa.2.1 xa.2.2 qa).bind fun d δ1 r ρ1 _ h1 hr => ?_ : Rn _ _ κ1 (IsV true true) δ ρ).rv
        have q : Rn (de ψ b) ((ev φ b).bind freeze) κb (fun d _ y => y = d) δ1 ρ1 := sFx (sK FR b xa.1 δ1 ρ1 h1) hb h1
        have gen : Rn ((de ψ b).bind fun e => (DM.ofO (cmpD o1 d e)).bind fun z => if z then (de ψ c).bind fun f => (DM.ofO (cmpD o2 e f)).bind fun z => DM.ret (.bool z) else DM.ret (.bool false))
            (((ev φ b).bind freeze).bind fun e => (peekR r).bind fun d => (M.ofO (cmpD o1 d e)).bind fun z => if z then (ev φ c).bind fun w => (peekR w).bind fun f => (M.ofO (cmpD o2 e f)).bind fun z => M.ret (.v (.val (.bool z))) else M.ret (.v (.val (.bool false)))) κ1 (IsV true true) δ1 ρ1 := by
          refine q.bind fun e δ2 y ρ2 eq2 h2 ey => ?_
          subst ey
          have pk := peek_at h2 (hr.step hm (fr b _ _ _ eq2)) hp
          have st : Rn ((DM.ofO (cmpD o1 d y)).bind fun z => if z then (de ψ c).bind fun f => (DM.ofO (cmpD o2 y f)).bind fun z => DM.ret (.bool z) else DM.ret (.bool false))
              ((M.ofO (cmpD o1 d y)).bind fun z => if z then (ev φ c).bind fun w => (peekR w).bind fun f => (M.ofO (cmpD o2 y f)).bind fun z => M.ret (.v (.val (.bool z))) else M.ret (.v (.val (.bool false)))) κ1 (IsV true true) δ2 ρ2 := by
            refine (Rn.ofO (R := fun a _ b => b = a) h2 fun _ => rfl).bind fun k δ3 r3 ρ3 _ h3 e3 => ?_
            subst e3
            cases r3 with
            | true =>
              refine Rn.jnr ?_ hq
              exact cP (sK FR c κb δ3 ρ3 h3) hc fun f δ' ρ' h' => (Rn.ofO (R := fun a _ b => b = a) h' fun _ => rfl).bind fun k δ'' r ρ'' _ h2 e => by
                subst e; exact bool_ok h2
            | false => exact (bool_ok h3).jnl hq
          unfold Rn at st ⊢
          have e2 : ((peekR r).bind fun d => (M.ofO (cmpD o1 d y)).bind fun z => if z then (ev φ c).bind fun w => (peekR w).bind fun f => (M.ofO (cmpD o2 y f)).bind fun z => M.ret (Rv.v (Vl.val (PyData.bool z))) else M.ret (Rv.v (Vl.val (PyData.bool false)))) ρ2 = ((M.ofO (cmpD o1 d y)).bind fun z => if z then (ev φ c).bind fun w => (peekR w).bind fun f => (M.ofO (cmpD o2 y f)).bind fun z => M.ret (Rv.v (Vl.val (PyData.bool z))) else M.ret (Rv.v (Vl.val (PyData.bool false)))) ρ2 := by
            conv => lhs; unfold M.bind
            simp only [pk]
            rfl
          rw [e2]
          exact st
        rw [M.assoc] at gen
        exact gen
      · cases ha
    · cases hk
  | .slc a lo hi, κ, δ, ρ, h, κ1, F, D, hk => by
    simp only [kE] at hk
    obtain ⟨xa, qa, hk⟩ := bind_eq hk
    split at hk
    · rename_i hm
      obtain ⟨hq, rfl, rfl⟩ := okK_eq hk
      obtain ⟨κ2, hl, hh⟩ := bind_eq hq
      simp only [de, ev]
      refine ((sK FR a κ δ ρ h xa.1 xa.2.1 xa.2.2 qa).bind fun d δ1 r ρ1 _ h1 hr => ?_ : Rn _ _ κ1 (IsV true false) δ ρ).rv
      refine (sOo FR lo xa.1 δ1 ρ1 κ2 h1 hl).bind fun l δ2 l' ρ2 eq2 h2 el => ?_
      subst el
      refine (sOo FR hi κ2 δ2 ρ2 κ1 h2 hh).bind fun u δ3 u' ρ3 eq3 h3 eu => ?_
      subst eu
      have f3 : Fm (mutO lo ++ mutO hi) δ1 δ3 := ((frO lo _ _ _ eq2).mono app_l').trans ((frO hi _ _ _ eq3).mono app_r')
      have pk := peekC_at h3 (hr.step hm f3)
      have st : Rn (DM.ofO (vd (slcD d l' u'))) ((M.ofO (slcD d l' u')).bind fun z => M.ret (.v z)) κ1 (IsV true false) δ3 ρ3 := Rn.ofV h3 ok_slc
      unfold Rn at st ⊢
      have e2 : ((peekC r).bind fun d => (M.ofO (slcD d l' u')).bind fun z => M.ret (Rv.v z)) ρ3 = ((M.ofO (slcD d l' u')).bind fun z => M.ret (Rv.v z)) ρ3 := by
        conv => lhs; unfold M.bind
        simp only [pk]
        rfl
      rw [e2]
      exact st
    · cases hk
  | .app i e, κ, δ, ρ, h, κ1, F, D, hk => by
    simp only [kE] at hk
    split at hk
    · rename_i hc
      obtain ⟨c1, _⟩ := and2 hc
      obtain ⟨κ2, hf, hk⟩ := bind_eq hk
      split at hk
      · rename_i ho
        simp only [Option.some.injEq, Prod.mk.injEq] at hk
        obtain ⟨rfl, rfl, rfl⟩ := hk
        simp only [de, ev]
        exact (chk_at h c1 (cF (sK FR e κ δ ρ h) hf h fun d δ' ρ' h' => app_at h' ho)).rv
      · cases hk
    · cases hk
  | .ext i e, κ, δ, ρ, h, κ1, F, D, hk => by
    simp only [kE] at hk
    split at hk
    · rename_i hc
      obtain ⟨c1, _⟩ := and2 hc
      obtain ⟨κ2, hf, hk⟩ := bind_eq hk
      split at hk
      · rename_i ho
        simp only [Option.some.injEq, Prod.mk.injEq] at hk
        obtain ⟨rfl, rfl, rfl⟩ := hk
        simp only [de, ev]
        exact (chk_at h c1 (cF (sK FR e κ δ ρ h) hf h fun d δ' ρ' h' => ext_at h' ho)).rv
      · cases hk
    · cases hk
  | .pop i e, κ, δ, ρ, h, κ1, F, D, hk => by
    simp only [kE] at hk
    split at hk
    · rename_i hc
      obtain ⟨c1, _⟩ := and2 hc
      obtain ⟨κ2, hf, hk⟩ := bind_eq hk
      split at hk
      · rename_i ho
        simp only [Option.some.injEq, Prod.mk.injEq] at hk
        obtain ⟨rfl, rfl, rfl⟩ := hk
        simp only [de, ev]
        exact (chk_at h c1 ((sOo FR e κ δ ρ κ2 h hf).bind fun k δ' r ρ' _ h' e => by
          subst e; exact pop_at h' ho)).rv
      · cases hk
    · cases hk
  | .bi b es, κ, δ, ρ, h, κ1, F, D, hk => by
    simp only [kE] at hk
    obtain ⟨hq, rfl, rfl⟩ := okK_eq hk
    simp only [de, ev]
    refine ((sPs FR es κ δ ρ κ1 h hq).bind fun ds δ' xs ρ' _ h' hp => ?_ : Rn _ _ κ1 (IsV true false) δ ρ).rv
    have st : Rn (DM.ofO (vd (biD b ds))) ((M.ofO (biD b ds)).bind fun z => M.ret (.v z)) κ1 (IsV true false) δ' ρ' := Rn.ofV h' ok_bi
    have pk := hp ρ' h'
    unfold Rn at st ⊢
    have e2 : ((peekAll xs).bind fun ds => (M.ofO (biD b ds)).bind fun z => M.ret (Rv.v z)) ρ' = ((M.ofO (biD b ds)).bind fun z => M.ret (Rv.v z)) ρ' := by
      conv => lhs; unfold M.bind
      simp only [pk]
      rfl
    rw [e2]
    exact st
  | .thaw is e, κ, δ, ρ, h, κ1, F, D, hk => by
    simp only [kE] at hk
    split at hk
    · rename_i hc
      obtain ⟨c1, c2'⟩ := and2 hc
      obtain ⟨x, qx, hk⟩ := bind_eq hk
      split at hk
      · rename_i ho
        simp only [Option.some.injEq, Prod.mk.injEq] at hk
        obtain ⟨rfl, rfl, rfl⟩ := hk
        have a := sK FR e κ δ ρ h x.1 x.2.1 x.2.2 qx
        simp only [de, ev]
        unfold Rn at a ⊢
        unfold DM.bind
        cases q : de ψ e δ with
        | bad => trivial
        | ex c =>
          rw [q] at a
          obtain ⟨ρ', a⟩ := a
          refine ⟨ρ', ?_⟩
          unfold thawM
          simp only [a]
        | ok d δ' =>
          rw [q] at a
          obtain ⟨r, ρ', a1, a2, a3⟩ := a
          obtain ⟨y, rfl, s⟩ := a3.noVar c2'
          dsimp only
          cases hsc : scal d with
          | false => trivial
          | true =>
            have fm := fr e _ _ _ q
            have hd : ∀ i, getD' δ' i = getD' δ i := fun i => fm.2 i (by rw [List.isEmpty_iff.mp c1]; exact List.not_mem_nil)
            have ha : ∀ i ∈ is, alk κ[i]? x.1[i]? = true := fun i hi => by
              have := List.all_eq_true.mp ho i hi
              exact this
            have hy : y = .val d := by
              match y, s with
              | .val z, s => rw [Option.some.inj s.1]
              | .own xs false, s =>
                have e3 : d = .list xs := Option.some.inj s.1
                rw [e3] at hsc; cases hsc
            subst hy
            refine ⟨.v (.val d), _, ?_, thaw_at h a2 hd is ha, rfl, fun _ => ?_⟩
            · unfold thawM
              simp only [a1]
              rw [if_pos hsc]
            · cases d <;> first | rfl | cases hsc
      · cases hk
    · cases hk
  | .comp elt own tg it c, κ, δ, ρ, h, κ1, F, D, hk => by
    simp only [kE] at hk
    obtain ⟨κa, ha, hk⟩ := bind_eq hk
    split at hk
    · rename_i hd
      obtain ⟨κo, hbo, hk⟩ := bind_eq hk
      obtain ⟨κi, hji, hk⟩ := bind_eq hk
      obtain ⟨κp, hbp, hk⟩ := bind_eq hk
      obtain ⟨κj, hjj, hk⟩ := bind_eq hk
      split at hk
      · rename_i hc
        obtain ⟨c1, c0⟩ := and2 hc
        have c1 := of_decide_eq_true c1
        subst c1
        simp only [Option.some.injEq, Prod.mk.injEq] at hk
        obtain ⟨rfl, rfl, rfl⟩ := hk
        obtain ⟨κ2, hT, hbp⟩ := bind_eq hbp
        obtain ⟨κ3, hF, hj2⟩ := bind_eq hbp
        simp only [de, ev]
        refine ((sIt FR it κ δ ρ κa h ha).bind fun ds δ1 ys ρ1 _ a1 e => ?_ : Rn _ _ _ (IsV true false) δ ρ).rv
        subst e
        have hd' : ∀ i ∈ own, datK κa i = true := fun i hi => List.all_eq_true.mp hd i hi
        have as := setAll_at a1 own hd'
        have ai : At κj δ1 ρ1 := as.jnl hji
        unfold Rn compDM
        split
        · rename_i q
          split at q
          · rename_i hs
            have t := turns_at (c := dt ψ c) (el := de ψ elt) (c' := tst φ c) (el' := ev φ elt) (own := own) (tg := tg) (fun i hi => List.all_eq_true.mp c0 i hi) (fun i hi => by simpa using List.all_eq_true.mp hs i hi)
              (fun δ ρ a => ⟨κ2, κ3, sTt FR c κj δ ρ κ2 a hT, fun δ ρ a => sFx (sK FR elt κ2 δ ρ a) hF a, fun δ ρ a => (a.jnl hj2).jnr hjj, fun δ ρ a => (a.jnr hj2).jnr hjj⟩) ys δ1 ρ1 ai
            unfold Rn at t
            cases e2 : compD own tg (dt ψ c) (de ψ elt) ys δ1 with
            | bad => rw [e2] at q; cases q
            | ex c => rw [e2] at q; cases q
            | ok zs δ2 =>
              rw [e2] at q t
              obtain ⟨zs', ρ2, t1, t2, rfl⟩ := t
              cases q
              refine ⟨.v (.own zs' false), _, ?_, back_at a1 t2 own hd', .own zs' false, rfl, rfl, rfl⟩
              unfold compM
              simp only [t1]
          · cases q
        · rename_i q
          split at q
          · split at q <;> cases q
          · cases q
        · trivial
      · cases hk
    · cases hk
  | .call f rs es, κ, δ, ρ, h, κ1, F, D, hk => by
    simp only [kE] at hk
    cases hs : sg[f]? with
    | none => rw [hs] at hk; cases hk
    | some s =>
      rw [hs] at hk
      dsimp only at hk
      split at hk
      · rename_i hn
        obtain ⟨hq, rfl, rfl⟩ := okK_eq hk
        simp only [de, ev]
        refine ((sAs FR es rs s.ps κ δ ρ κ1 h hq).bind fun as δ1 as' ρ1 _ h1 hr => ?_ : Rn _ _ κ1 (IsV s.rf false) δ ρ).rv
        obtain ⟨rfl, hl, ha⟩ := hr
        unfold Rn callD
        cases e0 : daVs δ1 as' with
        | none => trivial
        | some ds =>
          obtain ⟨vs, g1, g2⟩ := arVs_at h1 s.ps as' ds ha e0
          have fr := FR f s hs ds vs g2
          dsimp only
          have hn : (lentOf as').Nodup := by
            rw [hl]; exact of_decide_eq_true hn
          cases e1 : ψ f ds with
          | bad => trivial
          | ex c =>
            rw [e1] at fr
            refine ⟨backA ρ1 as' [], ?_⟩
            unfold callM
            simp only [g1, fr]
            rw [if_pos hn]
          | ok d outs =>
            rw [e1] at fr
            obtain ⟨x, outs', f1, f2, f5⟩ := fr
            refine ⟨.v x, backA ρ1 as' outs', ?_, back_call h1 s.ps as' ds outs outs' ha e0 f5, x, rfl, f2⟩
            unfold callM
            simp only [g1, f1]
            rw [if_pos hn]
      · cases hk
theorem sAs (FR : FnR sg φ ψ) : ∀ (es : CEs) (rs : List Bool) (ps : List Kd) (κ : KEnv) (δ : DEnv) (ρ : Env) (κ' : KEnv), At κ δ ρ → kA sg es rs ps κ = some κ' → Rn (dea ψ es rs) (evas φ es rs) κ' (fun as _ as' => as' = as ∧ lentOf as' = lentE es rs ∧ ArOk κ' ps as') δ ρ
  | .nil, rs, [], κ, δ, ρ, κ', h, hk => by
    have e : κ = κ' := by simpa [kA] using hk
    subst e
    have e1 : dea ψ .nil rs = DM.ret [] := by cases rs <;> simp only [dea]
    have e2 : evas φ .nil rs = M.ret [] := by cases rs <;> simp only [evas]
    rw [e1, e2]
    refine ⟨[], ρ, rfl, h, rfl, ?_, trivial⟩
    cases rs <;> simp only [lentE, lentOf]
  | .nil, rs, _ :: _, κ, δ, ρ, κ', h, hk => by
    cases rs <;> simp [kA] at hk
  | .cons e es, rs, [], κ, δ, ρ, κ', h, hk => by
    cases rs <;> simp [kA] at hk
  | .cons e es, rs, p :: ps, κ, δ, ρ, κ', h, hk => by
    match p, hk with
    | .v false true, hk =>
      simp only [kA] at hk
      split at hk
      · cases hk
      · rename_i hr
        obtain ⟨d1, d2, d3⟩ := dea_val (ψ := ψ) (φ := φ) (e := e) (es := es) (rs := rs) (by simpa using hr)
        obtain ⟨κ2, hf, hk⟩ := bind_eq hk
        rw [d1, d2, d3]
        exact cF (sK FR e κ δ ρ h) hf h fun d δ' ρ' h' => (sAs FR es rs.tail ps κ2 δ' ρ' κ' h' hk).bind fun as δ'' as' ρ'' _ h'' ⟨e1, e2, e3⟩ => by
          subst e1
          exact ⟨_, ρ'', rfl, h'', rfl, e2, rfl, e3⟩
    | .v true _, hk => simp [kA] at hk
    | .v false false, hk => simp [kA] at hk
    | .b, hk =>
      cases e with
      | var i =>
        simp only [kA] at hk
        split at hk
        · rename_i hc
          obtain ⟨c1, c2⟩ := and2 hc
          cases rs with
          | nil => cases c1
          | cons r rs =>
            have : r = true := c1
            subst this
            obtain ⟨κ2, hk, hk2⟩ := bind_eq hk
            split at hk2
            · rename_i ho
              cases hk2
              simp only [dea, evas, lentE]
              unfold Rn
              cases q : getD' δ i with
              | none =>
                have : ((chkL i).bind fun _ => (dea ψ es rs).bind fun as => DM.ret (AR.ref i :: as)) δ = .bad := by
                  unfold DM.bind chkL
                  simp only [q]
                rw [this]; trivial
              | some d =>
                cases d with
                | list xs =>
                  obtain ⟨b, g1, _⟩ := own_at h c2 q
                  have e1 : ((chkL i).bind fun _ => (dea ψ es rs).bind fun as => DM.ret (AR.ref i :: as)) δ = ((dea ψ es rs).bind fun as => DM.ret (AR.ref i :: as)) δ := by
                    conv => lhs; unfold DM.bind chkL
                    simp only [q]
                    rfl
                  have e2 : ((lendV i).bind fun a => (evas φ es rs).bind fun as => M.ret (a :: as)) ρ = ((evas φ es rs).bind fun as => M.ret (AR.ref i :: as)) ρ := by
                    conv => lhs; unfold M.bind lendV
                    simp only [g1]
                    rfl
                  rw [e1, e2]
                  exact (sAs FR es rs ps κ δ ρ κ' h hk).bind fun as δ'' as' ρ'' _ h'' ⟨e1, e2, e3⟩ => by
                    subst e1
                    exact ⟨_, ρ'', rfl, h'', rfl, congrArg (i :: ·) e2, .inl ⟨rfl, ho⟩, e3⟩
                | _ =>
                  have : ((chkL i).bind fun _ => (dea ψ es rs).bind fun as => DM.ret (AR.ref i :: as)) δ = .bad := by
                    unfold DM.bind chkL
                    simp only [q]
                  rw [this]; trivial
            · cases hk2
        · cases hk
      | _ => simp [kA] at hk
    | .l, hk =>
      cases e with
      | var i =>
        simp only [kA] at hk
        split at hk
        · rename_i hc
          obtain ⟨c1, c2⟩ := and2 hc
          have c2 := of_decide_eq_true c2
          cases rs with
          | nil => cases c1
          | cons r rs =>
            have : r = true := c1
            subst this
            obtain ⟨κ2, hk, hk2⟩ := bind_eq hk
            split at hk2
            · rename_i ho
              have ho := of_decide_eq_true ho
              cases hk2
              simp only [dea, evas, lentE]
              unfold Rn
              obtain ⟨_, _, s⟩ := h.get c2
              cases q : getD' δ i with
              | none =>
                have : ((chkL i).bind fun _ => (dea ψ es rs).bind fun as => DM.ret (AR.ref i :: as)) δ = .bad := by
                  unfold DM.bind chkL
                  simp only [q]
                rw [this]; trivial
              | some d =>
                rw [q] at s
                cases hs : getS ρ i with
                | none => rw [hs] at s; exact s.elim
                | some y =>
                  rw [hs] at s
                  match y, s with
                  | .lok xs, s =>
                    have ed := Option.some.inj s.1
                    subst ed
                    have e1 : ((chkL i).bind fun _ => (dea ψ es rs).bind fun as => DM.ret (AR.ref i :: as)) δ = ((dea ψ es rs).bind fun as => DM.ret (AR.ref i :: as)) δ := by
                      conv => lhs; unfold DM.bind chkL
                      simp only [q]
                      rfl
                    have e2 : ((lendV i).bind fun a => (evas φ es rs).bind fun as => M.ret (a :: as)) ρ = ((evas φ es rs).bind fun as => M.ret (AR.ref i :: as)) ρ := by
                      conv => lhs; unfold M.bind lendV
                      simp only [hs]
                      rfl
                    rw [e1, e2]
                    exact (sAs FR es rs ps κ δ ρ κ' h hk).bind fun as δ'' as' ρ'' _ h'' ⟨e1, e2, e3⟩ => by
                      subst e1
                      exact ⟨_, ρ'', rfl, h'', rfl, congrArg (i :: ·) e2, .inr ⟨rfl, ho⟩, e3⟩
            · cases hk2
        · cases hk
      | _ => simp [kA] at hk
theorem sIt (FR : FnR sg φ ψ) : ∀ (it : CI) (κ : KEnv) (δ : DEnv) (ρ : Env) (κ' : KEnv), At κ δ ρ → kI sg it κ = some κ' → Rn (dei ψ it) (evi φ it) κ' (fun ds _ ys => ys = ds) δ ρ
  | .seq e, κ, δ, ρ, κ', h, hk => by
    simp only [kI] at hk
    simp only [dei, evi, M.bind_ret]
    exact cF (sK FR e κ δ ρ h) hk h fun d δ' ρ' h' => Rn.ofO h' fun _ => rfl
  | .rng1 e, κ, δ, ρ, κ', h, hk => by
    simp only [kI] at hk
    simp only [dei, evi, rg1]
    refine cP (sK FR e κ δ ρ h) hk fun d δ' ρ' h' => ?_
    cases d with
    | int j =>
      dsimp only
      split
      · exact ⟨_, ρ', rfl, h', rfl⟩
      · trivial
    | _ => trivial
  | .rng2 a b, κ, δ, ρ, κ', h, hk => by
    simp only [kI] at hk
    simp only [dei, evi, rg2]
    refine c2 (sK FR a κ δ ρ h) (fun κ δ ρ h => sK FR b κ δ ρ h) hk fun d e δ' ρ' h' => ?_
    cases d with
    | int j =>
      cases e with
      | int i =>
        dsimp only
        split
        · exact ⟨_, ρ', rfl, h', rfl⟩
        · trivial
      | _ => trivial
    | _ => trivial
  | .enum e, κ, δ, ρ, κ', h, hk => by
    simp only [kI] at hk
    simp only [dei, evi, M.bind_ret]
    exact cF (sK FR e κ δ ρ h) hk h fun d δ' ρ' h' => Rn.ofO h' fun _ => rfl
  | .zip a b, κ, δ, ρ, κ', h, hk => by
    simp only [kI] at hk
    obtain ⟨κ1, h1, h2⟩ := bind_eq hk
    simp only [dei, evi, M.bind_ret]
    exact cF (sK FR a κ δ ρ h) h1 h fun d δ' ρ' h' => cF (sK FR b κ1 δ' ρ' h') h2 h' fun e δ'' ρ'' h'' => Rn.ofO h'' fun _ => rfl
theorem sOo (FR : FnR sg φ ψ) : ∀ (o : CEo) (κ : KEnv) (δ : DEnv) (ρ : Env) (κ' : KEnv), At κ δ ρ → kO sg o κ = some κ' → Rn (deo ψ o) (evo φ o) κ' (fun i _ j => j = i) δ ρ
  | .none, κ, δ, ρ, κ', h, hk => by
    cases hk
    exact ⟨_, ρ, rfl, h, rfl⟩
  | .some e, κ, δ, ρ, κ', h, hk => by
    simp only [kO] at hk
    simp only [deo, evo]
    exact cP (sK FR e κ δ ρ h) hk fun d δ' ρ' h' => (Rn.ofO (R := fun a _ b => b = a) h' fun _ => rfl).bind fun k δ'' r ρ'' _ h2 e => by
      subst e
      exact ⟨_, ρ'', rfl, h2, rfl⟩
theorem sPs (FR : FnR sg φ ψ) : ∀ (es : CEs) (κ : KEnv) (δ : DEnv) (ρ : Env) (κ' : KEnv), At κ δ ρ → kPs sg es κ = some κ' → Rn (des ψ es) (evps φ es) κ' (fun ds δ' xs => ∀ ρ', At κ' δ' ρ' → peekAll xs ρ' = .ok ds ρ') δ ρ
  | .nil, κ, δ, ρ, κ', h, hk => by
    cases hk
    exact ⟨_, ρ, rfl, h, fun ρ' _ => rfl⟩
  | .cons e es, κ, δ, ρ, κ', h, hk => by
    simp only [kPs] at hk
    obtain ⟨κ1, h1, hk⟩ := bind_eq hk
    obtain ⟨κ2, h2, hk⟩ := bind_eq hk
    split at hk
    · rename_i hp
      cases hk
      unfold kQx at h1
      obtain ⟨x, qx, h1⟩ := bind_eq h1
      split at h1
      · rename_i hm
        cases h1
        simp only [des, evps]
        refine (sK FR e κ δ ρ h x.1 x.2.1 x.2.2 qx).bind fun d δ1 r ρ1 _ a1 hr => ?_
        refine (sPs FR es x.1 δ1 ρ1 κ' a1 h2).bind fun ds δ2 xs ρ2 eq2 a2 hxs => ?_
        refine ⟨_, ρ2, rfl, a2, fun ρ' a' => ?_⟩
        have p1 := peek_at a' (hr.step hm (frs es _ _ _ eq2)) hp
        have p2 := hxs ρ' a'
        simp only [peekAll, M.bind, p1, p2, M.ret]
      · cases h1
    · cases hk
theorem sFs (FR : FnR sg φ ψ) : ∀ (es : CEs) (κ : KEnv) (δ : DEnv) (ρ : Env) (κ' : KEnv), At κ δ ρ → kFs sg es κ = some κ' → Rn (des ψ es) (evs φ es) κ' (fun ds _ ys => ys = ds) δ ρ
  | .nil, κ, δ, ρ, κ', h, hk => by
    cases hk
    exact ⟨_, ρ, rfl, h, rfl⟩
  | .cons e es, κ, δ, ρ, κ', h, hk => by
    simp only [kFs] at hk
    obtain ⟨κ1, h1, h2⟩ := bind_eq hk
    simp only [des, evs]
    exact cF (sK FR e κ δ ρ h) h1 h fun d δ' ρ' h' => (sFs FR es κ1 δ' ρ' κ' h' h2).bind fun ds δ'' ys ρ'' _ h'' e => by
      subst e
      exact ⟨_, ρ'', rfl, h'', rfl⟩
theorem sTt (FR : FnR sg φ ψ) : ∀ (t : CT) (κ : KEnv) (δ : DEnv) (ρ : Env) (κ' : KEnv), At κ δ ρ → kT sg t κ = some κ' → Rn (dt ψ t) (tst φ t) κ' (fun k _ r => r = k) δ ρ
  | .yes, κ, δ, ρ, κ', h, hk => by
    cases hk
    exact ⟨_, ρ, rfl, h, rfl⟩
  | .val e, κ, δ, ρ, κ', h, hk => by
    simp only [kT] at hk
    simp only [dt, tst]
    exact cP (sK FR e κ δ ρ h) hk fun d δ' ρ' h' => Rn.ofO h' fun _ => rfl
  | .not t, κ, δ, ρ, κ', h, hk => by
    simp only [kT] at hk
    simp only [dt, tst]
    exact (sTt FR t κ δ ρ κ' h hk).bind fun k δ' r ρ' _ h' e => by
      subst e
      exact ⟨_, ρ', rfl, h', rfl⟩
  | .and a b, κ, δ, ρ, κ', h, hk => by
    simp only [kT] at hk
    obtain ⟨κa, ha, hk⟩ := bind_eq hk
    obtain ⟨κb, hb, hk⟩ := bind_eq hk
    simp only [dt, tst]
    refine (sTt FR a κ δ ρ κa h ha).bind fun k δ' r ρ' _ h' e => ?_
    subst e
    cases r with
    | true => exact (sTt FR b κa δ' ρ' κb h' hb).jnr hk
    | false => exact ⟨_, ρ', rfl, h'.jnl hk, rfl⟩
  | .or a b, κ, δ, ρ, κ', h, hk => by
    simp only [kT] at hk
    obtain ⟨κa, ha, hk⟩ := bind_eq hk
    obtain ⟨κb, hb, hk⟩ := bind_eq hk
    simp only [dt, tst]
    refine (sTt FR a κ δ ρ κa h ha).bind fun k δ' r ρ' _ h' e => ?_
    subst e
    cases r with
    | false => exact (sTt FR b κa δ' ρ' κb h' hb).jnr hk
    | true => exact ⟨_, ρ', rfl, h'.jnl hk, rfl⟩
  | .ite c a b, κ, δ, ρ, κ', h, hk => by
    simp only [kT] at hk
    obtain ⟨κc, hc, hk⟩ := bind_eq hk
    obtain ⟨κa, ha, hk⟩ := bind_eq hk
    obtain ⟨κb, hb, hk⟩ := bind_eq hk
    simp only [dt, tst]
    refine (sTt FR c κ δ ρ κc h hc).bind fun k δ' r ρ' _ h' e => ?_
    subst e
    cases r with
    | true => exact (sTt FR a κc δ' ρ' κa h' ha).jnl hk
    | false => exact (sTt FR b κc δ' ρ' κb h' hb).jnr hk
end
end
end Gn

/-! Go, part G: statements. -/
namespace Gn
open PySem
variable [TheLok]

/-- what was lent stands there -/
def Ls (ps : List Kd) (δ : DEnv) (ρ : Env) : Prop := ∀ j k, ps[j]? = some k → (k = .b ∨ k = .l) → SlK k (getD' δ j) (getS ρ j)
theorem Ls.of : ∀ {ps : List Kd} {κ : KEnv} {δ : DEnv} {ρ : Env}, blOk ps κ = true → At κ δ ρ → Ls ps δ ρ
  | [], _, _, _, _, _ => fun j k e _ => by simp at e
  | .v F D :: ps, _ :: κ, _ :: δ, _ :: ρ, h, a => fun j k e w => by
    cases j with
    | zero =>
      simp only [List.getElem?_cons_zero, Option.some.injEq] at e
      subst e
      rcases w with w | w <;> cases w
    | succ j =>
      have := Ls.of (ps := ps) (κ := κ) h a.2 j k (by simpa using e) w
      simpa only [getD', getS, List.getElem?_cons_succ] using this
  | .b :: ps, .b :: κ, _ :: δ, _ :: ρ, h, a => fun j k e w => by
    cases j with
    | zero =>
      simp only [List.getElem?_cons_zero, Option.some.injEq] at e
      subst e
      exact a.1
    | succ j =>
      have := Ls.of (ps := ps) (κ := κ) h a.2 j k (by simpa using e) w
      simpa only [getD', getS, List.getElem?_cons_succ] using this
  | .l :: ps, .l :: κ, _ :: δ, _ :: ρ, h, a => fun j k e w => by
    cases j with
    | zero =>
      simp only [List.getElem?_cons_zero, Option.some.injEq] at e
      subst e
      exact a.1
    | succ j =>
      have := Ls.of (ps := ps) (κ := κ) h a.2 j k (by simpa using e) w
      simpa only [getD', getS, List.getElem?_cons_succ] using this
  | .v _ _ :: _, [], _, _, h, _ => by cases h
  | .b :: _, [], _, _, h, _ => by cases h
  | .l :: _, [], _, _, h, _ => by cases h
  | .b :: _, .v _ _ :: _, _, _, h, _ => by cases h
  | .b :: _, .l :: _, _, _, h, _ => by cases h
  | .l :: _, .v _ _ :: _, _, _, h, _ => by cases h
  | .l :: _, .b :: _, _, _, h, _ => by cases h
theorem Ls.none {ps : List Kd} (h : allV ps = true) {δ : DEnv} {ρ : Env} : Ls ps δ ρ := fun j k e w => by
  have := List.all_eq_true.mp h k (List.mem_of_getElem? e)
  rcases w with rfl | rfl <;> cases this
/-- a slot that is none of what was lent -/
theorem blOk_ne : ∀ {ps : List Kd} {κ : KEnv} {i j : Nat} {k : Kd} {F D : Bool}, blOk ps κ = true → κ[i]? = some (.v F D) → ps[j]? = some k → (k = .b ∨ k = .l) → i ≠ j
  | [], _, _, _, _, _, _, _, _, e, _ => by simp at e
  | p :: ps, q :: κ, 0, 0, k, F, D, h, e1, e2, w => by
    simp only [List.getElem?_cons_zero, Option.some.injEq] at e1 e2
    subst e1 e2
    rcases w with rfl | rfl <;> cases h
  | p :: ps, q :: κ, i + 1, 0, _, _, _, _, _, _, _ => by omega
  | p :: ps, q :: κ, 0, j + 1, _, _, _, _, _, _, _ => by omega
  | p :: ps, q :: κ, i + 1, j + 1, k, F, D, h, e1, e2, w => by
    have h' : blOk ps κ = true := by
      cases p <;> cases q <;> first | exact h | cases h
    have := blOk_ne (ps := ps) (κ := κ) (i := i) (j := j) h' (by simpa using e1) (by simpa using e2) w
    omega
  | p :: ps, [], i, j, k, F, D, h, e1, e2, w => by simp at e1

/-- what a statement comes to -/
def Sn (rf : Bool) (ps : List Kd) (o : KO) (m : DM DFl) (f : M Fl) (δ : DEnv) (ρ : Env) : Prop := match m δ with
  | .ok .next δ' => ∃ ρ' κ', f ρ = .ok .next ρ' ∧ o.nx = some κ' ∧ At κ' δ' ρ'
  | .ok .brk δ' => ∃ ρ' κ', f ρ = .ok .brk ρ' ∧ o.bk = some κ' ∧ At κ' δ' ρ'
  | .ok .cont δ' => ∃ ρ' κ', f ρ = .ok .cont ρ' ∧ o.ct = some κ' ∧ At κ' δ' ρ'
  | .ok (.ret d) δ' => ∃ x ρ', f ρ = .ok (.ret x) ρ' ∧ SlK (.v rf false) (some d) (some x) ∧ Ls ps δ' ρ'
  | .ex c => ∃ ρ', f ρ = .ex c ρ'
  | .bad => True
section
variable {rf : Bool} {ps : List Kd} {o : KO} {δ : DEnv} {ρ : Env} {κ : KEnv}
theorem Sn.bind {α β : Type} {m : DM α} {f : M β} {κ1 : KEnv} {R : α → DEnv → β → Prop} {g : α → DM DFl} {h : β → M Fl} (a : Rn m f κ1 R δ ρ)
    (b : ∀ d δ' r ρ', m δ = .ok d δ' → At κ1 δ' ρ' → R d δ' r → Sn rf ps o (g d) (h r) δ' ρ') : Sn rf ps o (m.bind g) (f.bind h) δ ρ := by
  unfold Rn at a
  unfold Sn
  unfold DM.bind M.bind
  cases e : m δ with
  | bad => trivial
  | ex c =>
    rw [e] at a
    obtain ⟨ρ', a⟩ := a
    exact ⟨ρ', by simp only [a]⟩
  | ok d δ' =>
    rw [e] at a
    obtain ⟨r, ρ', e1, e2, e3⟩ := a
    have q := b d δ' r ρ' e e2 e3
    unfold Sn at q
    simp only [e1]
    exact q
theorem Sn.next (a : At κ δ ρ) (h : o.nx = some κ) : Sn rf ps o (DM.ret .next) (M.ret .next) δ ρ := ⟨ρ, κ, rfl, h, a⟩
theorem Sn.of_eq {m m' : DM DFl} {f f' : M Fl} (h : Sn rf ps o m f δ ρ) (e1 : m' δ = m δ) (e2 : f' ρ = f ρ) : Sn rf ps o m' f' δ ρ := by
  unfold Sn at h ⊢
  rw [e1, e2]
  exact h
theorem Rn.of_eq {α β : Type} {m m' : DM α} {f f' : M β} {R : α → DEnv → β → Prop} (h : Rn m f κ R δ ρ) (e1 : m' δ = m δ) (e2 : f' ρ = f ρ) : Rn m' f' κ R δ ρ := by
  unfold Rn at h ⊢
  rw [e1, e2]
  exact h
theorem nxK_eq {a : Option KEnv} (h : nxK a = some o) : ∃ κ, a = some κ ∧ o = ⟨some κ, none, none⟩ := by
  unfold nxK at h
  cases a with
  | none => cases h
  | some κ => exact ⟨κ, rfl, (Option.some.inj h).symm⟩
/-- a store of what no other slot holds -/
theorem put_v {i : Nat} {F D : Bool} {κ' : KEnv} {d : PD} {y : Vl} (h : At κ δ ρ) (hk : putK κ i F D = some κ') (s : SlK (.v F D) (some d) (some y)) : Rn (wrD i d) (putV i y) κ' (fun _ _ _ => True) δ ρ := by
  obtain ⟨p1, p2, p3⟩ := put_at h hk s
  unfold Rn
  rw [p2]
  exact ⟨(), _, p1, p3, trivial⟩
theorem set_at {i : Nat} {k d : PD} (h : At κ δ ρ) (ho : ownK κ i = true) : Rn (setDx i k d) (setM i k d) κ (fun _ _ _ => True) δ ρ := by
  unfold Rn setDx
  cases q : getD' δ i with
  | none => trivial
  | some x =>
    cases x with
    | list xs =>
      obtain ⟨b, g1, g2⟩ := own_at h ho q
      cases k with
      | int j =>
        dsimp only
        cases e : L2.ixN xs.length j with
        | none => trivial
        | some n =>
          refine ⟨(), _, ?_, g2 _, trivial⟩
          unfold setM
          simp only [g1, e]
      | _ => trivial
    | _ => trivial
/-- an int in a slot -/
theorem int_at {i : Nat} (h : At κ δ ρ) : Rn (intDS i) (intS i) κ (fun m _ n => n = m) δ ρ := by
  unfold Rn intDS
  cases q : getD' δ i with
  | none => trivial
  | some x =>
    cases x with
    | int m =>
      obtain ⟨k, ek⟩ := h.kd q
      obtain ⟨_, _, s⟩ := h.get ek
      rw [q] at s
      refine ⟨m, ρ, ?_, h, rfl⟩
      cases hs : getS ρ i with
      | none =>
        rw [hs] at s
        cases k <;> first | cases s | exact s.elim
      | some y =>
        rw [hs] at s
        unfold intS
        simp only [hs]
        match k, y, s with
        | .v F D, .val z, s =>
          have := Option.some.inj s.1
          subst this; rfl
        | .v F D, .own xs false, s => cases s.1
        | .b, .own xs true, s => cases s
        | .l, .lok xs, s => cases s.1
    | _ => trivial
/-- values for parallel stores -/
def Vs : List (Bool × Bool) → List PD → List Rv → Prop
  | [], [], [] => True
  | (F, D) :: r, d :: ds, x :: xs => (∃ y, x = .v y ∧ SlK (.v F D) (some d) (some y)) ∧ Vs r ds xs
  | _, _, _ => False
theorem pts_at : ∀ (ts : List Tg) (r : List (Bool × Bool)) (ds : List PD) (xs : List Rv) (κ : KEnv) (δ : DEnv) (ρ : Env) (κ' : KEnv), At κ δ ρ → Vs r ds xs → kPts ts r κ = some κ' → Rn (dpar ts ds) (parM ts xs) κ' (fun _ _ _ => True) δ ρ
  | [], [], [], [], κ, δ, ρ, κ', h, _, hk => by
    cases hk
    exact ⟨(), ρ, rfl, h, trivial⟩
  | .name i :: ts, (F, D) :: r, d :: ds, x :: xs, κ, δ, ρ, κ', h, hv, hk => by
    obtain ⟨⟨y, rfl, s⟩, hv⟩ := hv
    simp only [kPts] at hk
    obtain ⟨κ1, h1, hk⟩ := bind_eq hk
    exact (put_v h h1 s).bind fun _ δ' _ ρ' _ h' _ => pts_at ts r ds xs κ1 δ' ρ' κ' h' hv hk
  | [], _ :: _, _, _, _, _, _, _, _, _, hk => by cases hk
  | [], [], _ :: _, _, _, _, _, _, _, hv, _ => by cases hv
  | [], [], [], _ :: _, _, _, _, _, _, hv, _ => by cases hv
  | .nil :: _, _, _, _, _, _, _, _, _, _, hk => by simp [kPts] at hk
  | .cons _ _ :: _, _, _, _, _, _, _, _, _, _, hk => by simp [kPts] at hk
  | .name _ :: _, [], _, _, _, _, _, _, _, _, hk => by simp [kPts] at hk
  | .name _ :: _, _ :: _, [], _, _, _, _, _, _, hv, _ => by cases hv
  | .name _ :: _, _ :: _, _ :: _, [], _, _, _, _, _, hv, _ => by cases hv
end
section
variable {sg : Sgs} {φ : Fns} {ψ : DFns}
theorem rs_at (FR : FnR sg φ ψ) : ∀ (es : CEs) (κ : KEnv) (δ : DEnv) (ρ : Env) (κ' : KEnv) (r : List (Bool × Bool)), At κ δ ρ → kRs sg es κ = some (κ', r) → Rn (des ψ es) (evr φ es) κ' (fun ds _ xs => Vs r ds xs) δ ρ
  | .nil, κ, δ, ρ, κ', r, h, hk => by
    simp only [kRs, Option.some.injEq, Prod.mk.injEq] at hk
    obtain ⟨rfl, rfl⟩ := hk
    exact ⟨[], ρ, rfl, h, trivial⟩
  | .cons e es, κ, δ, ρ, κ', r, h, hk => by
    simp only [kRs] at hk
    obtain ⟨⟨κ1, F, D⟩, h1, hk⟩ := bind_eq hk
    cases e2 : kRs sg es κ1 with
    | none => rw [e2] at hk; cases hk
    | some y =>
      obtain ⟨κ2, r2⟩ := y
      rw [e2] at hk
      simp only [Option.map_some, Option.some.injEq, Prod.mk.injEq] at hk
      obtain ⟨rfl, rfl⟩ := hk
      simp only [des, evr]
      exact cS (sK FR e κ δ ρ h) h1 h fun d y δ' ρ' h' s => (rs_at FR es κ1 δ' ρ' κ2 r2 h' e2).bind fun ds δ'' xs ρ'' _ h'' hv => ⟨_, ρ'', rfl, h'', ⟨y, rfl, s⟩, hv⟩
end
end Gn

/-! Go, part H: statements, by kinds; defs. -/
namespace Gn
open PySem
variable [TheLok]

theorem DM.assoc {α β γ : Type} (m : DM α) (f : α → DM β) (g : β → DM γ) : (m.bind f).bind g = m.bind fun x => (f x).bind g := by
  funext δ
  unfold DM.bind
  cases m δ <;> rfl
/-- what is known is less -/
def KLe1 (a b : Option KEnv) : Prop := ∀ κ, a = some κ → ∃ κ', b = some κ' ∧ ∀ δ ρ, At κ δ ρ → At κ' δ ρ
structure KLe (a b : KO) : Prop where
  nx : KLe1 a.nx b.nx
  bk : KLe1 a.bk b.bk
  ct : KLe1 a.ct b.ct
theorem KLe1.rfl' {a : Option KEnv} : KLe1 a a := fun κ h => ⟨κ, h, fun _ _ h => h⟩
theorem KLe1.none' {b : Option KEnv} : KLe1 none b := fun κ h => by cases h
theorem KLe1.trans {a b c : Option KEnv} (h : KLe1 a b) (h' : KLe1 b c) : KLe1 a c := fun κ e => by
  obtain ⟨κ1, e1, f1⟩ := h κ e
  obtain ⟨κ2, e2, f2⟩ := h' κ1 e1
  exact ⟨κ2, e2, fun δ ρ a => f2 δ ρ (f1 δ ρ a)⟩
theorem jo_le {a b c : Option KEnv} (h : jo a b = some c) : KLe1 a c ∧ KLe1 b c := by
  cases a with
  | none =>
    cases h
    exact ⟨.none', .rfl'⟩
  | some x =>
    cases b with
    | none =>
      cases h
      exact ⟨.rfl', .none'⟩
    | some y =>
      simp only [jo] at h
      cases e : jn x y with
      | none => rw [e] at h; cases h
      | some z =>
        rw [e] at h
        cases h
        exact ⟨fun κ q => by cases q; exact ⟨z, rfl, fun δ ρ a => a.jnl e⟩, fun κ q => by cases q; exact ⟨z, rfl, fun δ ρ a => a.jnr e⟩⟩
theorem KO.jn_le {a b c : KO} (h : KO.jn a b = some c) : KLe a c ∧ KLe b c := by
  unfold KO.jn at h
  obtain ⟨x, h1, h⟩ := bind_eq h
  obtain ⟨y, h2, h⟩ := bind_eq h
  cases h3 : jo a.ct b.ct with
  | none => rw [h3] at h; cases h
  | some z =>
    rw [h3] at h
    cases h
    exact ⟨⟨(jo_le h1).1, (jo_le h2).1, (jo_le h3).1⟩, ⟨(jo_le h1).2, (jo_le h2).2, (jo_le h3).2⟩⟩
section
variable {rf : Bool} {ps : List Kd} {o p : KO} {δ : DEnv} {ρ : Env} {κ : KEnv} {m : DM DFl} {f : M Fl}
theorem Sn.le (a : Sn rf ps p m f δ ρ) (h : KLe p o) : Sn rf ps o m f δ ρ := by
  unfold Sn at a ⊢
  cases e : m δ with
  | bad => trivial
  | ex c => rw [e] at a; exact a
  | ok r δ' =>
    rw [e] at a
    cases r with
    | next =>
      obtain ⟨ρ', κ', a1, a2, a3⟩ := a
      obtain ⟨κ2, e2, f2⟩ := h.nx _ a2
      exact ⟨ρ', κ2, a1, e2, f2 _ _ a3⟩
    | brk =>
      obtain ⟨ρ', κ', a1, a2, a3⟩ := a
      obtain ⟨κ2, e2, f2⟩ := h.bk _ a2
      exact ⟨ρ', κ2, a1, e2, f2 _ _ a3⟩
    | cont =>
      obtain ⟨ρ', κ', a1, a2, a3⟩ := a
      obtain ⟨κ2, e2, f2⟩ := h.ct _ a2
      exact ⟨ρ', κ2, a1, e2, f2 _ _ a3⟩
    | ret d => exact a
theorem Sn.seq {g : DFl → DM DFl} {h : Fl → M Fl} (a : Sn rf ps p m f δ ρ) (hn : ∀ δ' ρ' κ', p.nx = some κ' → At κ' δ' ρ' → Sn rf ps o (g .next) (h .next) δ' ρ')
    (hb : ∀ δ' ρ' κ', p.bk = some κ' → At κ' δ' ρ' → Sn rf ps o (g .brk) (h .brk) δ' ρ') (hc : ∀ δ' ρ' κ', p.ct = some κ' → At κ' δ' ρ' → Sn rf ps o (g .cont) (h .cont) δ' ρ')
    (hr : ∀ d, g (.ret d) = DM.ret (.ret d)) (hr' : ∀ x, h (.ret x) = M.ret (.ret x)) : Sn rf ps o (m.bind g) (f.bind h) δ ρ := by
  unfold Sn at a
  cases e : m δ with
  | bad =>
    unfold Sn DM.bind
    rw [e]; trivial
  | ex c =>
    rw [e] at a
    obtain ⟨ρ', a⟩ := a
    unfold Sn DM.bind M.bind
    rw [e]
    exact ⟨ρ', by simp only [a]⟩
  | ok r δ' =>
    rw [e] at a
    cases r with
    | next =>
      obtain ⟨ρ', κ', a1, a2, a3⟩ := a
      have q := hn δ' ρ' κ' a2 a3
      unfold Sn DM.bind M.bind
      unfold Sn at q
      simp only [e, a1]
      exact q
    | brk =>
      obtain ⟨ρ', κ', a1, a2, a3⟩ := a
      have q := hb δ' ρ' κ' a2 a3
      unfold Sn DM.bind M.bind
      unfold Sn at q
      simp only [e, a1]
      exact q
    | cont =>
      obtain ⟨ρ', κ', a1, a2, a3⟩ := a
      have q := hc δ' ρ' κ' a2 a3
      unfold Sn DM.bind M.bind
      unfold Sn at q
      simp only [e, a1]
      exact q
    | ret d =>
      obtain ⟨x, ρ', a1, a2, a3⟩ := a
      unfold Sn DM.bind M.bind
      simp only [e, a1, hr, hr']
      exact ⟨x, ρ', rfl, a2, a3⟩
end
theorem kLoop_eq {body : KEnv → Option KO} {κ κi : KEnv} {p : KO} (h : kLoop body κ = some (κi, p)) : (∀ δ ρ, At κ δ ρ → At κi δ ρ) ∧ body κi = some p ∧ KLe1 p.nx (some κi) ∧ KLe1 p.ct (some κi) := by
  unfold kLoop at h
  obtain ⟨o, ho, h⟩ := bind_eq h
  obtain ⟨x, hx, h⟩ := bind_eq h
  obtain ⟨y, hy, h⟩ := bind_eq h
  obtain ⟨κi', ey, h5⟩ := bind_eq h
  clear h
  have h := h5
  clear h5
  subst ey

  obtain ⟨p', hp, h⟩ := bind_eq h
  obtain ⟨x2, hx2, h⟩ := bind_eq h
  obtain ⟨z, hz, h⟩ := bind_eq h
  split at h
  · rename_i e
    cases h
    subst e
    refine ⟨fun δ ρ a => ?_, hp, (jo_le hx2).2.trans (jo_le hz).1, (jo_le hz).2⟩
    obtain ⟨κ1, e1, f1⟩ := (jo_le hx).1.trans (jo_le hy).1 κ rfl
    cases e1
    exact f1 _ _ a
  · cases h
section
variable {sg : Sgs} {φ : Fns} {ψ : DFns} {rf : Bool} {ps : List Kd}
theorem for_at {t : Tg} {b : DM DFl} {b' : M Fl} {κi κ1 : KEnv} {p o : KO} (ht : tgK κi t = some κ1) (hb : ∀ δ ρ, At κ1 δ ρ → Sn rf ps p b b' δ ρ) (h1 : KLe1 p.nx (some κi)) (h2 : KLe1 p.ct (some κi)) (h3 : KLe1 (some κi) o.nx) (h4 : KLe1 p.bk o.nx) :
    ∀ (ds : List PD) (δ : DEnv) (ρ : Env), At κi δ ρ → Sn rf ps o (dfor t b ds) (forM t b' ds) δ ρ
  | [], δ, ρ, h => by
    obtain ⟨κ', e, g⟩ := h3 κi rfl
    exact ⟨ρ, κ', rfl, e, g _ _ h⟩
  | d :: ds, δ, ρ, h => by
    simp only [dfor, forM]
    refine Sn.bind (tg_at t d κi δ ρ κ1 h ht) fun _ δ1 _ ρ1 _ a1 _ => ?_
    refine (hb δ1 ρ1 a1).seq (fun δ' ρ' κ' e a => ?_) (fun δ' ρ' κ' e a => ?_) (fun δ' ρ' κ' e a => ?_) (fun _ => rfl) (fun _ => rfl)
    · obtain ⟨κ2, e2, g⟩ := h1 κ' e
      cases e2
      exact for_at ht hb h1 h2 h3 h4 ds δ' ρ' (g _ _ a)
    · obtain ⟨κ2, e2, g⟩ := h4 κ' e
      exact ⟨ρ', κ2, rfl, e2, g _ _ a⟩
    · obtain ⟨κ2, e2, g⟩ := h2 κ' e
      cases e2
      exact for_at ht hb h1 h2 h3 h4 ds δ' ρ' (g _ _ a)
theorem while_at {c : DM Bool} {b : DM DFl} {c' : M Bool} {b' : M Fl} {κi κ1 : KEnv} {p o : KO} (hc : ∀ δ ρ, At κi δ ρ → Rn c c' κ1 (fun k _ r => r = k) δ ρ) (hb : ∀ δ ρ, At κ1 δ ρ → Sn rf ps p b b' δ ρ) (h1 : KLe1 p.nx (some κi)) (h2 : KLe1 p.ct (some κi)) (h3 : KLe1 (some κ1) o.nx) (h4 : KLe1 p.bk o.nx) :
    ∀ (n : Nat) (δ : DEnv) (ρ : Env), At κi δ ρ → Sn rf ps o (dwhile c b n) (whileM c' b' n) δ ρ
  | 0, δ, ρ, h => trivial
  | n + 1, δ, ρ, h => by
    simp only [dwhile, whileM]
    refine Sn.bind (hc δ ρ h) fun k δ1 r ρ1 _ a1 e => ?_
    subst e
    cases r with
    | false =>
      obtain ⟨κ', e, g⟩ := h3 κ1 rfl
      exact ⟨ρ1, κ', rfl, e, g _ _ a1⟩
    | true =>
      refine (hb δ1 ρ1 a1).seq (fun δ' ρ' κ' e a => ?_) (fun δ' ρ' κ' e a => ?_) (fun δ' ρ' κ' e a => ?_) (fun _ => rfl) (fun _ => rfl)
      · obtain ⟨κ2, e2, g⟩ := h1 κ' e
        cases e2
        exact while_at hc hb h1 h2 h3 h4 n δ' ρ' (g _ _ a)
      · obtain ⟨κ2, e2, g⟩ := h4 κ' e
        exact ⟨ρ', κ2, rfl, e2, g _ _ a⟩
      · obtain ⟨κ2, e2, g⟩ := h2 κ' e
        cases e2
        exact while_at hc hb h1 h2 h3 h4 n δ' ρ' (g _ _ a)
theorem ret_e {e : CE} {κ : KEnv} {δ : DEnv} {ρ : Env} {x : KR} {o : KO} (hv : noVar e = true) (hE : Told sg φ ψ e κ δ ρ) (hk : kE sg e κ = some x) (hc : ((!rf || x.2.1) && blOk ps x.1) = true) :
    Sn rf ps o ((de ψ e).bind fun d => DM.ret (.ret d)) ((ev φ e).bind fun r => retM r) δ ρ := by
  obtain ⟨c1, c2⟩ := and2 hc
  refine Sn.bind (hE x.1 x.2.1 x.2.2 hk) fun d δ' r ρ' _ h' hr => ?_
  obtain ⟨y, rfl, s⟩ := hr.noVar hv
  refine ⟨y, ρ', rfl, ?_, Ls.of c2 h'⟩
  have : (rf && x.2.1) = rf := by
    cases rf with
    | false => rfl
    | true => simpa using c1
  rw [← this]
  have q := (s.weak (F' := rf) (D' := false)).2
  simpa using q
mutual
theorem sX (FR : FnR sg φ ψ) : ∀ (s : CS) (κ : KEnv) (δ : DEnv) (ρ : Env) (o : KO), At κ δ ρ → kX sg rf ps s κ = some o → Sn rf ps o (dx ψ s) (exe φ s) δ ρ
  | .asg t e, κ, δ, ρ, o, h, hk => by
    cases t with
    | name i =>
      simp only [kX] at hk
      obtain ⟨κ1, hq, rfl⟩ := nxK_eq hk
      clear hk
      have hk := hq
      clear hq
      obtain ⟨⟨κ2, F, D⟩, h1, h2⟩ := bind_eq hk
      simp only [dx, exe]
      have st : Sn rf ps ⟨some κ1, none, none⟩ ((de ψ e).bind fun d => (dasg (.name i) d).bind fun _ => DM.ret .next) ((ev φ e).bind fun r => (settle r).bind fun r => (asgM (.name i) r).bind fun _ => M.ret .next) δ ρ := by
        have q : Rn (de ψ e) ((ev φ e).bind settle) κ2 (IsV F D) δ ρ := sSx (sK FR e κ δ ρ h) h1 h
        have q2 := Sn.bind (rf := rf) (ps := ps) (o := ⟨some κ1, none, none⟩) (g := fun d => (dasg (.name i) d).bind fun _ => DM.ret .next) (h := fun r => (asgM (.name i) r).bind fun _ => M.ret .next) q fun d δ' r ρ' _ h' ⟨y, e, s⟩ => by
          subst e
          refine Sn.bind (R := fun _ _ _ => True) (κ1 := κ1) ?_ fun _ δ'' _ ρ'' _ h'' _ => Sn.next h'' rfl
          simp only [dasg, asgM]
          exact put_v h' h2 s
        rw [M.assoc] at q2
        exact q2
      have e2 : (fun r => (settle r).bind fun r => (asgM (.name i) r).bind fun _ => M.ret Fl.next) = (fun r => (asgM (.name i) r).bind fun _ => M.ret Fl.next) := by
        funext r
        cases r with
        | v x => rfl
        | al j =>
          simp only [settle, asgM, asgD]
          rw [M.assoc, M.assoc]
          congr 1
      rw [e2] at st
      exact st
    | nil =>
      simp only [kX] at hk
      obtain ⟨κ1, hq, rfl⟩ := nxK_eq hk
      clear hk
      have hk := hq
      clear hq
      obtain ⟨κ2, h1, h2⟩ := bind_eq hk
      simp only [dx, exe, asgM]
      have q2 := Sn.bind (rf := rf) (ps := ps) (o := ⟨some κ1, none, none⟩) (g := fun d => (dasg .nil d).bind fun _ => DM.ret .next) (h := fun d => (asgD .nil d).bind fun _ => M.ret .next) (sFx (sK FR e κ δ ρ h) h1 h) fun d δ' y ρ' _ h' e => by
        subst e
        exact Sn.bind (tg_at .nil y κ2 δ' ρ' κ1 h' h2) fun _ δ'' _ ρ'' _ h'' _ => Sn.next h'' rfl
      rw [M.assoc] at q2
      refine q2.of_eq rfl ?_
      congr 1
      congr 1
      funext r
      rw [M.assoc]
    | cons t ts =>
      simp only [kX] at hk
      obtain ⟨κ1, hq, rfl⟩ := nxK_eq hk
      clear hk
      have hk := hq
      clear hq
      obtain ⟨κ2, h1, h2⟩ := bind_eq hk
      simp only [dx, exe, asgM]
      have q2 := Sn.bind (rf := rf) (ps := ps) (o := ⟨some κ1, none, none⟩) (g := fun d => (dasg (.cons t ts) d).bind fun _ => DM.ret .next) (h := fun d => (asgD (.cons t ts) d).bind fun _ => M.ret .next) (sFx (sK FR e κ δ ρ h) h1 h) fun d δ' y ρ' _ h' e => by
        subst e
        exact Sn.bind (tg_at (.cons t ts) y κ2 δ' ρ' κ1 h' h2) fun _ δ'' _ ρ'' _ h'' _ => Sn.next h'' rfl
      rw [M.assoc] at q2
      refine q2.of_eq rfl ?_
      congr 1
      congr 1
      funext r
      rw [M.assoc]
  | .par ts es, κ, δ, ρ, o, h, hk => by
    simp only [kX] at hk
    obtain ⟨κ1, hq, rfl⟩ := nxK_eq hk
    clear hk
    have hk := hq
    clear hq
    obtain ⟨⟨κ2, r⟩, h1, h2⟩ := bind_eq hk
    simp only [dx, exe]
    exact Sn.bind (rs_at FR es κ δ ρ κ2 r h h1) fun ds δ' xs ρ' _ h' hv => Sn.bind (pts_at ts r ds xs κ2 δ' ρ' κ1 h' hv h2) fun _ δ'' _ ρ'' _ h'' _ => Sn.next h'' rfl
  | .setIx i ix e, κ, δ, ρ, o, h, hk => by
    simp only [kX] at hk
    obtain ⟨κ1, hq, rfl⟩ := nxK_eq hk
    clear hk
    have hk := hq
    clear hq
    obtain ⟨κ2, h1, hk⟩ := bind_eq hk
    split at hk
    · rename_i hc
      obtain ⟨c1, _⟩ := and2 hc
      obtain ⟨κ3, h2, hk⟩ := bind_eq hk
      split at hk
      · rename_i ho
        cases hk
        simp only [dx, exe]
        have q : Rn ((de ψ e).bind fun d => (chkL i).bind fun _ => (de ψ ix).bind fun k => setDx i k d) ((ev φ e).bind fun r => (freeze r).bind fun d => (chkOwn i).bind fun _ => (ev φ ix).bind fun x => (peekR x).bind fun k => setM i k d) κ1 (fun _ _ _ => True) δ ρ :=
          cF (sK FR e κ δ ρ h) h1 h fun d δ' ρ' h' => chk_at h' c1 (cP (sK FR ix κ2 δ' ρ' h') h2 fun k δ'' ρ'' h'' => set_at h'' ho)
        have q2 := Sn.bind (rf := rf) (ps := ps) (o := ⟨some κ1, none, none⟩) (g := fun _ => DM.ret .next) (h := fun _ => M.ret .next) q fun _ δ'' _ ρ'' _ h'' _ => Sn.next h'' rfl
        refine q2.of_eq ?_ ?_
        · rw [DM.assoc]; congr 2; funext d; rw [DM.assoc]; congr 1; funext _; rw [DM.assoc]
        · rw [M.assoc]; congr 2; funext d; rw [M.assoc]; congr 1; funext _; rw [M.assoc]; congr 1; funext _; rw [M.assoc]; congr 1; funext _; rw [M.assoc]
      · cases hk
    · cases hk
  | .aug i e, κ, δ, ρ, o, h, hk => by
    simp only [kX] at hk
    obtain ⟨κ1, hq, rfl⟩ := nxK_eq hk
    clear hk
    have hk := hq
    clear hq
    obtain ⟨κ2, h1, h2⟩ := bind_eq hk
    simp only [dx, exe]
    refine Sn.bind (int_at h) fun m δ1 n ρ1 _ a1 e1 => ?_
    subst e1
    have q : Rn ((de ψ e).bind fun d => (DM.ofO (intD d)).bind fun m => wrD i (.int (n + m))) ((ev φ e).bind fun x => (peekR x).bind fun d => (M.ofO (intD d)).bind fun m => putV i (.val (.int (n + m)))) κ1 (fun _ _ _ => True) δ1 ρ1 :=
      cP (sK FR e κ δ1 ρ1 a1) h1 fun d δ' ρ' h' => (Rn.ofO (R := fun a _ b => b = a) h' fun _ => rfl).bind fun k δ'' r ρ'' _ h2' e => by
        subst e
        exact put_v h2' h2 ⟨rfl, fun _ => rfl⟩
    have q2 := Sn.bind (rf := rf) (ps := ps) (o := ⟨some κ1, none, none⟩) (g := fun _ => DM.ret .next) (h := fun _ => M.ret .next) q fun _ δ'' _ ρ'' _ h'' _ => Sn.next h'' rfl
    refine q2.of_eq ?_ ?_
    · rw [DM.assoc]; congr 2; funext d; rw [DM.assoc]
    · rw [M.assoc]; congr 2; funext d; rw [M.assoc]; congr 1; funext _; rw [M.assoc]
  | .expr e, κ, δ, ρ, o, h, hk => by
    simp only [kX] at hk
    obtain ⟨κ1, hq, rfl⟩ := nxK_eq hk
    clear hk
    have hk := hq
    clear hq
    cases h1 : kE sg e κ with
    | none => rw [h1] at hk; cases hk
    | some x =>
      rw [h1] at hk
      cases hk
      simp only [dx, exe]
      exact Sn.bind (sK FR e κ δ ρ h x.1 x.2.1 x.2.2 h1) fun _ δ' _ ρ' _ h' _ => Sn.next h' rfl
  | .ret e, κ, δ, ρ, o, h, hk => by
    simp only [dx, exe]
    cases e with
    | var i =>
      simp only [kX] at hk
      split at hk
      · rename_i F D ek
        split at hk
        · rename_i hc
          cases hk
          obtain ⟨c1, c2⟩ := and2 hc
          obtain ⟨hl1, hl2, s⟩ := h.get ek
          unfold Sn
          simp only [de, ev]
          unfold DM.bind M.bind rdD readV
          cases q : getD' δ i with
          | none => trivial
          | some d =>
            rw [q] at s
            cases hs : getS ρ i with
            | none => rw [hs] at s; cases s
            | some y =>
              rw [hs] at s
              match y, s with
              | .val x, s =>
                have e3 : d = x := Option.some.inj s.1
                subst e3
                refine ⟨.val d, ρ, rfl, ⟨rfl, fun z => s.2 ?_⟩, Ls.of c2 h⟩
                rw [z] at c1
                simpa using c1
              | .own xs false, s =>
                have e3 : d = .list xs := Option.some.inj s.1
                subst e3
                refine ⟨.own xs false, ρ.set i none, ?_, ⟨rfl, rfl⟩, ?_⟩
                · simp only [retM, hs]
                · intro j k ej w
                  have ne := blOk_ne c2 ek ej w
                  have r := Ls.of c2 h j k ej w
                  have e5 : getS (ρ.set i none) j = getS ρ j := by
                    unfold getS
                    rw [List.getElem?_set_ne ne]
                  rw [e5]
                  exact r
        · cases hk
      · cases hk
    | _ =>
      simp only [kX] at hk
      obtain ⟨x, h1, hk⟩ := bind_eq hk
      split at hk
      · rename_i hc
        exact ret_e rfl (sK FR _ κ δ ρ h) h1 hc
      · cases hk
  | .retN, κ, δ, ρ, o, h, hk => by
    simp only [kX] at hk
    split at hk
    · rename_i hc
      exact ⟨.val .none, ρ, rfl, ⟨rfl, fun _ => rfl⟩, Ls.of hc h⟩
    · cases hk
  | .ife c a b, κ, δ, ρ, o, h, hk => by
    simp only [kX] at hk
    obtain ⟨κ1, hc, hk⟩ := bind_eq hk
    obtain ⟨x, ha, hk⟩ := bind_eq hk
    obtain ⟨y, hb, hk⟩ := bind_eq hk
    simp only [dx, exe]
    refine Sn.bind (sTt FR c κ δ ρ κ1 h hc) fun k δ' r ρ' _ h' e => ?_
    subst e
    cases r with
    | true => exact (sXs FR a κ1 δ' ρ' x h' ha).le (KO.jn_le hk).1
    | false => exact (sXs FR b κ1 δ' ρ' y h' hb).le (KO.jn_le hk).2
  | .whl c b, κ, δ, ρ, o, h, hk => by
    simp only [kX] at hk
    obtain ⟨⟨κi, p⟩, hl, hk⟩ := bind_eq hk
    obtain ⟨κ1, hc, hk⟩ := bind_eq hk
    obtain ⟨y, hb, hk⟩ := bind_eq hk
    cases hz : jo (some κ1) y.bk with
    | none => rw [hz] at hk; cases hk
    | some z =>
      rw [hz] at hk
      cases hk
      obtain ⟨l1, l2, l3, l4⟩ := kLoop_eq hl
      simp only [hc, hb, Option.bind_some] at l2
      cases l2
      simp only [dx, exe]
      exact while_at (p := y) (κ1 := κ1) (κi := κi) (fun δ ρ a => sTt FR c κi δ ρ κ1 a hc) (fun δ ρ a => sXs FR b κ1 δ ρ y a hb) l3 l4 (jo_le hz).1 (jo_le hz).2 WF δ ρ (l1 _ _ h)
  | .for t it b, κ, δ, ρ, o, h, hk => by
    simp only [kX] at hk
    obtain ⟨κ0, hi, hk⟩ := bind_eq hk
    obtain ⟨⟨κi, p⟩, hl, hk⟩ := bind_eq hk
    cases hz : jo (some κi) p.bk with
    | none => rw [hz] at hk; cases hk
    | some z =>
      rw [hz] at hk
      cases hk
      obtain ⟨l1, l2, l3, l4⟩ := kLoop_eq hl
      obtain ⟨κ1, ht, hb⟩ := bind_eq l2
      simp only [dx, exe]
      refine Sn.bind (sIt FR it κ δ ρ κ0 h hi) fun ds δ' ys ρ' _ h' e => ?_
      subst e
      exact for_at (p := p) ht (fun δ ρ a => sXs FR b κ1 δ ρ p a hb) l3 l4 (jo_le hz).1 (jo_le hz).2 ys δ' ρ' (l1 _ _ h')
  | .rais c, κ, δ, ρ, o, h, hk => ⟨ρ, rfl⟩
  | .try b hs, κ, δ, ρ, o, h, hk => by
    simp only [kX] at hk
    split at hk
    · rename_i hv
      have q := sXs FR b κ δ ρ o h hk
      simp only [dx, exe]
      unfold Sn at q ⊢
      unfold dtry tryM
      cases e : dxs ψ b δ with
      | bad => trivial
      | ok r δ' =>
        rw [e] at q
        dsimp only
        cases r with
        | next => obtain ⟨ρ', κ', q1, q2⟩ := q; exact ⟨ρ', κ', by simp only [q1], q2⟩
        | brk => obtain ⟨ρ', κ', q1, q2⟩ := q; exact ⟨ρ', κ', by simp only [q1], q2⟩
        | cont => obtain ⟨ρ', κ', q1, q2⟩ := q; exact ⟨ρ', κ', by simp only [q1], q2⟩
        | ret d => obtain ⟨x, ρ', q1, q2⟩ := q; exact ⟨x, ρ', by simp only [q1], q2⟩
      | ex c =>
        rw [e] at q
        obtain ⟨ρ', q⟩ := q
        dsimp only
        cases hl : hs.lookup c.cls with
        | none => exact ⟨ρ', by simp only [q, hl]⟩
        | some g =>
          refine ⟨g.x, ρ', by simp only [q, hl], ?_, Ls.none hv⟩
          cases g with
          | none => exact ⟨rfl, fun _ => rfl⟩
          | lst ks => exact ⟨rfl, rfl⟩
    · cases hk
  | .pass, κ, δ, ρ, o, h, hk => by
    cases hk
    exact Sn.next h rfl
  | .brk, κ, δ, ρ, o, h, hk => by
    cases hk
    exact ⟨ρ, κ, rfl, rfl, h⟩
  | .cont, κ, δ, ρ, o, h, hk => by
    cases hk
    exact ⟨ρ, κ, rfl, rfl, h⟩
theorem sXs (FR : FnR sg φ ψ) : ∀ (ss : CSs) (κ : KEnv) (δ : DEnv) (ρ : Env) (o : KO), At κ δ ρ → kXs sg rf ps ss κ = some o → Sn rf ps o (dxs ψ ss) (exes φ ss) δ ρ
  | .nil, κ, δ, ρ, o, h, hk => by
    cases hk
    exact Sn.next h rfl
  | .cons s ss, κ, δ, ρ, o, h, hk => by
    simp only [kXs] at hk
    obtain ⟨x, hx, hk⟩ := bind_eq hk
    have q := sX FR s κ δ ρ x h hx
    simp only [dxs, exes]
    cases hn : x.nx with
    | none =>
      rw [hn] at hk
      cases hk
      refine q.seq (fun δ' ρ' κ' e a => ?_) (fun δ' ρ' κ' e a => ?_) (fun δ' ρ' κ' e a => ?_) (fun _ => rfl) (fun _ => rfl)
      · rw [hn] at e; cases e
      · exact ⟨ρ', κ', rfl, e, a⟩
      · exact ⟨ρ', κ', rfl, e, a⟩
    | some κ1 =>
      rw [hn] at hk
      obtain ⟨y, hy, hk⟩ := bind_eq hk
      obtain ⟨j1, j2⟩ := KO.jn_le hk
      refine q.seq (fun δ' ρ' κ' e a => ?_) (fun δ' ρ' κ' e a => ?_) (fun δ' ρ' κ' e a => ?_) (fun _ => rfl) (fun _ => rfl)
      · rw [hn] at e
        cases e
        exact (sXs FR ss κ1 δ' ρ' y a hy).le j2
      · obtain ⟨κ2, e2, g⟩ := j1.bk κ' e
        exact ⟨ρ', κ2, rfl, e2, g _ _ a⟩
      · obtain ⟨κ2, e2, g⟩ := j1.ct κ' e
        exact ⟨ρ', κ2, rfl, e2, g _ _ a⟩
end
end
end Gn

/-! Go, part I: defs, by kinds; the law by values alone. -/
namespace Gn
open PySem
section
variable [TheLok]
theorem At.nones : ∀ n : Nat, At (List.replicate n (.v true true)) (List.replicate n none) (List.replicate n none)
  | 0 => trivial
  | n + 1 => ⟨rfl, At.nones n⟩
theorem At.append : ∀ {κ κ' : KEnv} {δ δ' : DEnv} {ρ ρ' : Env}, At κ δ ρ → At κ' δ' ρ' → At (κ ++ κ') (δ ++ δ') (ρ ++ ρ')
  | [], _, [], _, [], _, _, h => h
  | _ :: _, _, _ :: _, _, _ :: _, _, h, h' => ⟨h.1, At.append h.2 h'⟩
theorem getD'_take {δ : DEnv} {n j : Nat} (h : j < n) : getD' (δ.take n) j = getD' δ j := by
  unfold getD'
  rw [List.getElem?_take_of_lt h]
theorem getS_take {δ : Env} {n j : Nat} (h : j < n) : getS (δ.take n) j = getS δ j := by
  unfold getS
  rw [List.getElem?_take_of_lt h]
variable {sg : Sgs} {φ : Fns} {ψ : DFns}
theorem fn_at (FR : FnR sg φ ψ) {s : Sg} {fd : FnD} (hk : kFn sg s fd = true) (ds : List PD) (args : List Vl) (h : At s.ps (ds.map some) (args.map some)) : match drun ψ fd ds with
  | .ok d outs => ∃ x outs', runF φ fd args = .ok x outs' ∧ SlK (.v s.rf false) (some d) (some x) ∧ Ls s.ps outs outs'
  | .ex c => runF φ fd args = .ex c
  | .bad => True := by
  unfold kFn at hk
  obtain ⟨h1, h2⟩ := and2 hk
  have h1 := of_decide_eq_true h1
  obtain ⟨l1, l2⟩ := h.len
  simp only [List.length_map] at l1 l2
  cases hx : kXs sg s.rf s.ps fd.body (s.ps ++ List.replicate (fd.ns - fd.np) (.v true true)) with
  | none => rw [hx] at h2; cases h2
  | some o =>
    rw [hx] at h2
    obtain ⟨h2, h3⟩ := and2 h2
    obtain ⟨h2, h4⟩ := and2 h2
    have q := sXs FR fd.body _ _ _ o (h.append (At.nones (fd.ns - fd.np))) hx
    have lt : ∀ {j : Nat} {k : Kd}, s.ps[j]? = some k → j < fd.np := fun e => by
      have := (List.getElem?_eq_some_iff.mp e).1
      omega
    have tk : ∀ {δ : DEnv} {ρ : Env}, Ls s.ps δ ρ → Ls s.ps (δ.take fd.np) (ρ.take fd.np) := fun {δ ρ} a j k e w => by
      rw [getD'_take (lt e), getS_take (lt e)]
      exact a j k e w
    unfold drun runF
    rw [if_pos (by omega), if_pos (by omega)]
    unfold Sn at q
    cases e : dxs ψ fd.body (ds.map some ++ List.replicate (fd.ns - fd.np) none) with
    | bad => trivial
    | ex c =>
      rw [e] at q
      obtain ⟨ρ', q⟩ := q
      simp only [q]
    | ok r δ' =>
      rw [e] at q
      cases r with
      | next =>
        obtain ⟨ρ', κ', q1, q2, q3⟩ := q
        rw [q2] at h3
        simp only [q1]
        exact ⟨.val .none, _, rfl, ⟨rfl, fun _ => rfl⟩, tk (Ls.of h3 q3)⟩
      | brk =>
        obtain ⟨ρ', κ', q1, q2, q3⟩ := q
        rw [q2] at h2; cases h2
      | cont =>
        obtain ⟨ρ', κ', q1, q2, q3⟩ := q
        rw [q2] at h4; cases h4
      | ret d =>
        obtain ⟨x, ρ', q1, q2, q3⟩ := q
        simp only [q1]
        exact ⟨x, _, rfl, q2, tk q3⟩
theorem kAll_get : ∀ {ss : Sgs} {T : List FnD} {f : Nat} {s : Sg}, kAll sg ss T = true → ss[f]? = some s → ∃ fd, T[f]? = some fd ∧ kFn sg s fd = true
  | [], [], _, _, _, e => by simp at e
  | [], _ :: _, _, _, h, _ => by cases h
  | _ :: _, [], _, _, h, _ => by cases h
  | s :: ss, d :: ds, 0, _, h, e => by
    simp only [List.getElem?_cons_zero, Option.some.injEq] at e
    subst e
    exact ⟨d, rfl, (and2 h).1⟩
  | s :: ss, d :: ds, f + 1, _, h, e => by
    obtain ⟨fd, e1, e2⟩ := kAll_get (ss := ss) (T := ds) (f := f) (and2 h).2 (by simpa using e)
    exact ⟨fd, by simpa using e1, e2⟩
theorem fnR_all {T : List FnD} (h : kAll sg sg T = true) : ∀ k, FnR sg (fnT T k) (dfn T k)
  | 0 => fun f s e ds args a => trivial
  | k + 1 => fun f s e ds args a => by
    obtain ⟨fd, e1, e2⟩ := kAll_get h e
    have q := fn_at (fnR_all h k) e2 ds args a
    have d1 : dfn T (k + 1) f ds = drun (dfn T k) fd ds := by simp only [dfn, e1]
    have d2 : fnT T (k + 1) f args = runF (fnT T k) fd args := by simp only [fnT, e1]
    rw [d1, d2]
    exact q
end
/-- a law by values alone -/
theorem law_dfn {sg : Sgs} {T : List FnD} (h : kAll sg sg T = true) {f k : Nat} {rf : Bool} (hs : sg[f]? = some ⟨[.l], rf⟩) {xs : List PD} {b : Bool} {outs : DEnv} (e : dfn T k f [.list xs] = .ok (.bool b) outs) : ∃ outs', fnT T k f [.lok xs] = .ok (.val (.bool b)) outs' := by
  letI : TheLok := ⟨xs⟩
  have q := fnR_all h k f _ hs [.list xs] [.lok xs] ⟨⟨rfl, rfl⟩, trivial⟩
  rw [e] at q
  obtain ⟨x, outs', q1, q2, _⟩ := q
  refine ⟨outs', ?_⟩
  rw [q1]
  match x, q2 with
  | .val d, s =>
    have := Option.some.inj s.1
    rw [this]
  | .own xs false, s => cases Option.some.inj s.1
end Gn

/-! Hp, part A: walking a def by values alone. -/
namespace Gn
open PySem

section
variable {α β : Type} {δ δ' : DEnv}
theorem DM.ret_ap (a : α) : (DM.ret a : DM α) δ = .ok a δ := rfl
theorem DM.bind_ap {m : DM α} {f : α → DM β} {a : α} (h : m δ = .ok a δ') : (m.bind f) δ = f a δ' := by
  unfold DM.bind
  rw [h]
theorem DM.ofO_ap (a : α) : (DM.ofO (some a) : DM α) δ = .ok a δ := rfl
/-- a comprehension that changes nothing but its own names -/
theorem compD_pure {own : List Nat} {tg : Tg} {c : DM Bool} {el : DM PD} {p : PD → Bool} {f : PD → PD} {Δ : PD → DEnv} {δ₀ : DEnv} :
    ∀ (ds : List PD) (δ : DEnv), wipeD δ own = δ₀ → (∀ d ∈ ds, dasg tg d δ₀ = .ok () (Δ d)) → (∀ d ∈ ds, wipeD (Δ d) own = δ₀) → (∀ d ∈ ds, c (Δ d) = .ok (p d) (Δ d)) → (∀ d ∈ ds, p d = true → el (Δ d) = .ok (f d) (Δ d)) →
    ∃ δ', compD own tg c el ds δ = .ok ((ds.filter p).map f) δ' ∧ (δ' = δ ∨ ∃ d ∈ ds, δ' = Δ d)
  | [], δ, _, _, _, _, _ => ⟨δ, rfl, .inl rfl⟩
  | d :: ds, δ, hw, ha, hs, hc, he => by
    obtain ⟨δ', h1, h2⟩ := compD_pure ds (Δ d) (hs d (List.mem_cons_self ..)) (fun e he => ha e (List.mem_cons_of_mem _ he)) (fun e he => hs e (List.mem_cons_of_mem _ he)) (fun e he => hc e (List.mem_cons_of_mem _ he)) (fun e h => he e (List.mem_cons_of_mem _ h))
    have h2' : ∃ e ∈ d :: ds, δ' = Δ e := by
      rcases h2 with h2 | ⟨e, h, h2⟩
      · exact ⟨d, List.mem_cons_self .., h2⟩
      · exact ⟨e, List.mem_cons_of_mem _ h, h2⟩
    refine ⟨δ', ?_, .inr h2'⟩
    show ((dasg tg d).bind fun _ => c.bind fun k => if k then el.bind fun y => (compD own tg c el ds).bind fun ys => DM.ret (y :: ys) else compD own tg c el ds) (wipeD δ own) = _
    rw [hw, DM.bind_ap (ha d (List.mem_cons_self ..)), DM.bind_ap (hc d (List.mem_cons_self ..))]
    cases hp : p d with
    | true =>
      rw [if_pos rfl, DM.bind_ap (he d (List.mem_cons_self ..) hp), DM.bind_ap h1]
      simp only [List.filter_cons, hp, if_true, List.map_cons]
      rfl
    | false =>
      rw [if_neg Bool.false_ne_true, h1]
      simp only [List.filter_cons, hp, Bool.false_eq_true, if_false]
theorem comp_pure {own : List Nat} {tg : Tg} {c : DM Bool} {el : DM PD} {ds : List PD} (p : PD → Bool) (f : PD → PD) (Δ : PD → DEnv) (hn : ((namesT tg).all fun i => own.contains i) = true)
    (ha : ∀ d ∈ ds, dasg tg d (wipeD δ own) = .ok () (Δ d)) (hs : ∀ d ∈ ds, wipeD (Δ d) own = wipeD δ own) (hb : ∀ d ∈ ds, backD δ (Δ d) own = δ) (hb' : backD δ δ own = δ) (hc : ∀ d ∈ ds, c (Δ d) = .ok (p d) (Δ d)) (he : ∀ d ∈ ds, p d = true → el (Δ d) = .ok (f d) (Δ d)) :
    compDM own tg c el ds δ = .ok (.list ((ds.filter p).map f)) δ := by
  obtain ⟨δ', h1, h2⟩ := compD_pure (p := p) (f := f) (Δ := Δ) ds δ rfl ha hs hc he
  unfold compDM
  rw [if_pos hn, h1]
  rcases h2 with rfl | ⟨d, hd, rfl⟩
  · simp only [hb']
  · simp only [hb d hd]
/-- .. over things that are written so -/
theorem compD_enc {γ : Type} {enc : γ → PD} {own : List Nat} {tg : Tg} {c : DM Bool} {el : DM PD} {p : γ → Bool} {f : γ → PD} {Δ : γ → DEnv} {δ₀ : DEnv} :
    ∀ (xs : List γ) (δ : DEnv), wipeD δ own = δ₀ → (∀ d ∈ xs, dasg tg (enc d) δ₀ = .ok () (Δ d)) → (∀ d ∈ xs, wipeD (Δ d) own = δ₀) → (∀ d ∈ xs, c (Δ d) = .ok (p d) (Δ d)) → (∀ d ∈ xs, p d = true → el (Δ d) = .ok (f d) (Δ d)) →
    ∃ δ', compD own tg c el (xs.map enc) δ = .ok ((xs.filter p).map f) δ' ∧ (δ' = δ ∨ ∃ d ∈ xs, δ' = Δ d)
  | [], δ, _, _, _, _, _ => ⟨δ, rfl, .inl rfl⟩
  | d :: ds, δ, hw, ha, hs, hc, he => by
    obtain ⟨δ', h1, h2⟩ := compD_enc ds (Δ d) (hs d (List.mem_cons_self ..)) (fun e he => ha e (List.mem_cons_of_mem _ he)) (fun e he => hs e (List.mem_cons_of_mem _ he)) (fun e he => hc e (List.mem_cons_of_mem _ he)) (fun e h => he e (List.mem_cons_of_mem _ h))
    have h2' : ∃ e ∈ d :: ds, δ' = Δ e := by
      rcases h2 with h2 | ⟨e, h, h2⟩
      · exact ⟨d, List.mem_cons_self .., h2⟩
      · exact ⟨e, List.mem_cons_of_mem _ h, h2⟩
    refine ⟨δ', ?_, .inr h2'⟩
    show ((dasg tg (enc d)).bind fun _ => c.bind fun k => if k then el.bind fun y => (compD own tg c el (ds.map enc)).bind fun ys => DM.ret (y :: ys) else compD own tg c el (ds.map enc)) (wipeD δ own) = _
    rw [hw, DM.bind_ap (ha d (List.mem_cons_self ..)), DM.bind_ap (hc d (List.mem_cons_self ..))]
    cases hp : p d with
    | true =>
      rw [if_pos rfl, DM.bind_ap (he d (List.mem_cons_self ..) hp), DM.bind_ap h1]
      simp only [List.filter_cons, hp, if_true, List.map_cons]
      rfl
    | false =>
      rw [if_neg Bool.false_ne_true, h1]
      simp only [List.filter_cons, hp, Bool.false_eq_true, if_false]
theorem comp_enc {γ : Type} {enc : γ → PD} {own : List Nat} {tg : Tg} {c : DM Bool} {el : DM PD} {xs : List γ} {rs : List PD} {p : γ → Bool} {f : γ → PD} {Δ : γ → DEnv} (hr : rs = (xs.filter p).map f) (hn : ((namesT tg).all fun i => own.contains i) = true)
    (ha : ∀ d ∈ xs, dasg tg (enc d) (wipeD δ own) = .ok () (Δ d)) (hs : ∀ d ∈ xs, wipeD (Δ d) own = wipeD δ own) (hb : ∀ d ∈ xs, backD δ (Δ d) own = δ) (hb' : backD δ δ own = δ) (hc : ∀ d ∈ xs, c (Δ d) = .ok (p d) (Δ d)) (he : ∀ d ∈ xs, p d = true → el (Δ d) = .ok (f d) (Δ d)) :
    compDM own tg c el (xs.map enc) δ = .ok (.list rs) δ := by
  subst hr
  obtain ⟨δ', h1, h2⟩ := compD_enc (enc := enc) (p := p) (f := f) (Δ := Δ) xs δ rfl ha hs hc he
  unfold compDM
  rw [if_pos hn, h1]
  rcases h2 with rfl | ⟨d, hd, rfl⟩
  · simp only [hb']
  · simp only [hb d hd]
/-- a for by what holds between its turns -/
theorem dfor_inv {t : Tg} {b : DM DFl} (I : List PD → DEnv → Prop) : ∀ (ds done : List PD) (δ : DEnv), I done δ →
    (∀ pre d post δ, done ++ ds = pre ++ d :: post → I pre δ → ∃ δ1, dasg t d δ = .ok () δ1 ∧ ∃ δ2, (b δ1 = .ok .next δ2 ∨ b δ1 = .ok .cont δ2) ∧ I (pre ++ [d]) δ2) →
    ∃ δ', dfor t b ds δ = .ok .next δ' ∧ I (done ++ ds) δ'
  | [], done, δ, h, _ => ⟨δ, rfl, by simpa using h⟩
  | d :: ds, done, δ, h, step => by
    obtain ⟨δ1, h1, δ2, h2, h3⟩ := step done d ds δ rfl h
    obtain ⟨δ', h4, h5⟩ := dfor_inv I ds (done ++ [d]) δ2 h3 fun pre d' post δ e => step pre d' post δ (by simpa using e)
    refine ⟨δ', ?_, by simpa using h5⟩
    show ((dasg t d).bind fun _ => b.bind _) δ = _
    rw [DM.bind_ap h1]
    rcases h2 with h2 | h2
    · rw [DM.bind_ap h2]; exact h4
    · rw [DM.bind_ap h2]; exact h4
/-- .. over things that are written so -/
theorem dfor_enc {γ : Type} {enc : γ → PD} {t : Tg} {b : DM DFl} (I : List γ → DEnv → Prop) : ∀ (xs done : List γ) (δ : DEnv), I done δ →
    (∀ pre d post δ, done ++ xs = pre ++ d :: post → I pre δ → ∃ δ1, dasg t (enc d) δ = .ok () δ1 ∧ ∃ δ2, (b δ1 = .ok .next δ2 ∨ b δ1 = .ok .cont δ2) ∧ I (pre ++ [d]) δ2) →
    ∃ δ', dfor t b (xs.map enc) δ = .ok .next δ' ∧ I (done ++ xs) δ'
  | [], done, δ, h, _ => ⟨δ, rfl, by simpa using h⟩
  | d :: ds, done, δ, h, step => by
    obtain ⟨δ1, h1, δ2, h2, h3⟩ := step done d ds δ rfl h
    obtain ⟨δ', h4, h5⟩ := dfor_enc I ds (done ++ [d]) δ2 h3 fun pre d' post δ e => step pre d' post δ (by simpa using e)
    refine ⟨δ', ?_, by simpa using h5⟩
    show ((dasg t (enc d)).bind fun _ => b.bind _) δ = _
    rw [DM.bind_ap h1]
    rcases h2 with h2 | h2
    · rw [DM.bind_ap h2]; exact h4
    · rw [DM.bind_ap h2]; exact h4
/-- .. that may leave by a return -/
theorem dfor_ret {t : Tg} {b : DM DFl} (I : List PD → DEnv → Prop) (R : PD → DEnv → Prop) : ∀ (ds done : List PD) (δ : DEnv), I done δ →
    (∀ pre d post δ, done ++ ds = pre ++ d :: post → I pre δ → ∃ δ1, dasg t d δ = .ok () δ1 ∧ ∃ δ2, ((b δ1 = .ok .next δ2 ∨ b δ1 = .ok .cont δ2) ∧ I (pre ++ [d]) δ2) ∨ ∃ x, b δ1 = .ok (.ret x) δ2 ∧ R x δ2) →
    ∃ δ', (dfor t b ds δ = .ok .next δ' ∧ I (done ++ ds) δ') ∨ ∃ x, dfor t b ds δ = .ok (.ret x) δ' ∧ R x δ'
  | [], done, δ, h, _ => ⟨δ, .inl ⟨rfl, by simpa using h⟩⟩
  | d :: ds, done, δ, h, step => by
    obtain ⟨δ1, h1, δ2, ⟨h2, h3⟩ | ⟨x, h2, h3⟩⟩ := step done d ds δ rfl h
    · obtain ⟨δ', h4⟩ := dfor_ret I R ds (done ++ [d]) δ2 h3 fun pre d' post δ e => step pre d' post δ (by simpa using e)
      have e : dfor t b (d :: ds) δ = dfor t b ds δ2 := by
        show ((dasg t d).bind fun _ => b.bind _) δ = _
        rw [DM.bind_ap h1]
        rcases h2 with h2 | h2
        · rw [DM.bind_ap h2]
        · rw [DM.bind_ap h2]
      rw [e]
      refine ⟨δ', ?_⟩
      simpa using h4
    · refine ⟨δ2, .inr ⟨x, ?_, h3⟩⟩
      show ((dasg t d).bind fun _ => b.bind _) δ = _
      rw [DM.bind_ap h1, DM.bind_ap h2]
      rfl
end
end Gn

/-! Hp, part B: one rule a construct, by values alone. -/
namespace Gn
open PySem

section
variable {ψ : DFns} {δ δ1 δ2 δ3 : DEnv} {d e f r : PD} {a b c : CE} {z : DOut PD}
theorem E.var {i : Nat} (h : getD' δ i = some d) : de ψ (.var i) δ = .ok d δ := by
  unfold de rdD
  simp only [h]
theorem E.con {k : Kc} : de ψ (.con k) δ = .ok k.d δ := rfl
theorem E.tup {es : CEs} {ds : List PD} (h : des ψ es δ = .ok ds δ1) : de ψ (.tup es) δ = .ok (.tuple ds) δ1 := by
  unfold de
  rw [DM.bind_ap h]; rfl
theorem E.lst {es : CEs} {ds : List PD} (h : des ψ es δ = .ok ds δ1) : de ψ (.lst es) δ = .ok (.list ds) δ1 := by
  unfold de
  rw [DM.bind_ap h]; rfl
theorem E.nil : des ψ .nil δ = .ok [] δ := rfl
theorem E.cons {es : CEs} {ds : List PD} (h : de ψ a δ = .ok d δ1) (h2 : des ψ es δ1 = .ok ds δ2) : des ψ (.cons a es) δ = .ok (d :: ds) δ2 := by
  unfold des
  rw [DM.bind_ap h, DM.bind_ap h2]; rfl
theorem E.bin {o : BOp} (h1 : de ψ a δ = .ok d δ1) (h2 : de ψ b δ1 = .ok e δ2) (h : vd (binD o d e) = some r) : de ψ (.bin o a b) δ = .ok r δ2 := by
  unfold de
  rw [DM.bind_ap h1, DM.bind_ap h2, h]; rfl
theorem E.neg (h1 : de ψ a δ = .ok d δ1) (h : vd (negD d) = some r) : de ψ (.neg a) δ = .ok r δ1 := by
  unfold de
  rw [DM.bind_ap h1, h]; rfl
theorem E.not {k : Bool} (h1 : de ψ a δ = .ok d δ1) (h : truD d = some k) : de ψ (.not a) δ = .ok (.bool (!k)) δ1 := by
  unfold de
  rw [DM.bind_ap h1, h]; rfl
theorem E.and {k : Bool} (h1 : de ψ a δ = .ok d δ1) (h : truD d = some k) (h2 : (if k then de ψ b δ1 else .ok d δ1) = z) : de ψ (.and a b) δ = z := by
  unfold de
  rw [DM.bind_ap h1, h]
  cases k <;> exact h2
theorem E.or {k : Bool} (h1 : de ψ a δ = .ok d δ1) (h : truD d = some k) (h2 : (if k then .ok d δ1 else de ψ b δ1) = z) : de ψ (.or a b) δ = z := by
  unfold de
  rw [DM.bind_ap h1, h]
  cases k <;> exact h2
theorem E.ite {t : CT} {k : Bool} (h1 : dt ψ t δ = .ok k δ1) (h2 : (if k then de ψ a δ1 else de ψ b δ1) = z) : de ψ (.ite t a b) δ = z := by
  unfold de
  rw [DM.bind_ap h1]
  cases k <;> exact h2
theorem E.cmp {o : COp} {k : Bool} (h1 : de ψ a δ = .ok d δ1) (h2 : de ψ b δ1 = .ok e δ2) (h : cmpD o d e = some k) : de ψ (.cmp o a b) δ = .ok (.bool k) δ2 := by
  unfold de
  rw [DM.bind_ap h1, DM.bind_ap h2, h]; rfl
theorem E.sub (h1 : de ψ a δ = .ok d δ1) (h2 : de ψ b δ1 = .ok e δ2) (h : subD d e = some r) : de ψ (.sub a b) δ = .ok r δ2 := by
  unfold de
  rw [DM.bind_ap h1, DM.bind_ap h2, h]; rfl
theorem E.slc {lo hi : CEo} {l u : Option Int} (h1 : de ψ a δ = .ok d δ1) (h2 : deo ψ lo δ1 = .ok l δ2) (h3 : deo ψ hi δ2 = .ok u δ3) (h : vd (slcD d l u) = some r) : de ψ (.slc a lo hi) δ = .ok r δ3 := by
  unfold de
  rw [DM.bind_ap h1, DM.bind_ap h2, DM.bind_ap h3, h]; rfl
theorem E.oN : deo ψ .none δ = .ok none δ := rfl
theorem E.oS {i : Int} (h : de ψ a δ = .ok (.int i) δ1) : deo ψ (.some a) δ = .ok (some i) δ1 := by
  unfold deo
  rw [DM.bind_ap h]; rfl
theorem E.rev (h1 : de ψ a δ = .ok d δ1) (h : vd (revD d) = some r) : de ψ (.rev a) δ = .ok r δ1 := by
  unfold de
  rw [DM.bind_ap h1, h]; rfl
theorem E.call {g : Nat} {rs : List Bool} {es : CEs} {as : List AR} {ds : List PD} {outs : DEnv} (h1 : dea ψ es rs δ = .ok as δ1) (h2 : daVs δ1 as = some ds) (h : ψ g ds = .ok r outs) : de ψ (.call g rs es) δ = .ok r (backL δ1 as outs) := by
  unfold de
  rw [DM.bind_ap h1]
  unfold callD
  simp only [h2, h]
theorem E.callX {g : Nat} {rs : List Bool} {es : CEs} {as : List AR} {ds : List PD} {x : Exn} (h1 : dea ψ es rs δ = .ok as δ1) (h2 : daVs δ1 as = some ds) (h : ψ g ds = .ex x) : de ψ (.call g rs es) δ = .ex x := by
  unfold de
  rw [DM.bind_ap h1]
  unfold callD
  simp only [h2, h]
theorem E.aN {rs : List Bool} : dea ψ .nil rs δ = .ok [] δ := by
  cases rs <;> rfl
theorem E.aV {es : CEs} {as : List AR} (h : de ψ a δ = .ok d δ1) (h2 : dea ψ es [] δ1 = .ok as δ2) : dea ψ (.cons a es) [] δ = .ok (.val d :: as) δ2 := by
  have : dea ψ (.cons a es) [] = ((de ψ a).bind fun d => (dea ψ es []).bind fun as => DM.ret (.val d :: as)) := by
    cases a <;> simp only [dea, List.tail_nil]
  rw [this, DM.bind_ap h, DM.bind_ap h2]; rfl
theorem E.aF {es : CEs} {rs : List Bool} {as : List AR} (h : de ψ a δ = .ok d δ1) (h2 : dea ψ es rs δ1 = .ok as δ2) : dea ψ (.cons a es) (false :: rs) δ = .ok (.val d :: as) δ2 := by
  have : dea ψ (.cons a es) (false :: rs) = ((de ψ a).bind fun d => (dea ψ es rs).bind fun as => DM.ret (.val d :: as)) := by
    cases a <;> simp only [dea, List.tail_cons]
  rw [this, DM.bind_ap h, DM.bind_ap h2]; rfl
theorem E.aR {es : CEs} {rs : List Bool} {as : List AR} {i : Nat} {xs : List PD} (h : getD' δ i = some (.list xs)) (h2 : dea ψ es rs δ = .ok as δ2) : dea ψ (.cons (.var i) es) (true :: rs) δ = .ok (.ref i :: as) δ2 := by
  have c : chkL i δ = .ok () δ := by
    unfold chkL
    simp only [h]
  simp only [dea]
  rw [DM.bind_ap c, DM.bind_ap h2]; rfl
theorem E.bi {o : Bi} {es : CEs} {ds : List PD} (h1 : des ψ es δ = .ok ds δ1) (h : vd (biD o ds) = some r) : de ψ (.bi o es) δ = .ok r δ1 := by
  unfold de
  rw [DM.bind_ap h1, h]; rfl
theorem E.isi {ts : List Ty} (h1 : de ψ a δ = .ok d δ1) : de ψ (.isi a ts) δ = .ok (.bool (ts.any (tyD d))) δ1 := by
  unfold de
  rw [DM.bind_ap h1]; rfl
theorem E.lstI {it : CI} {ds : List PD} (h : dei ψ it δ = .ok ds δ1) : de ψ (.lstI it) δ = .ok (.list ds) δ1 := by
  unfold de
  rw [DM.bind_ap h]; rfl
theorem E.tupI {it : CI} {ds : List PD} (h : dei ψ it δ = .ok ds δ1) : de ψ (.tupI it) δ = .ok (.tuple ds) δ1 := by
  unfold de
  rw [DM.bind_ap h]; rfl
theorem E.comp {elt : CE} {own : List Nat} {tg : Tg} {it : CI} {t : CT} {ds : List PD} (h : dei ψ it δ = .ok ds δ1) (h2 : compDM own tg (dt ψ t) (de ψ elt) ds δ1 = z) : de ψ (.comp elt own tg it t) δ = z := by
  unfold de
  rw [DM.bind_ap h]; exact h2
theorem E.compL {elt : CE} {own : List Nat} {tg : Tg} {it : CI} {t : CT} {ds : List PD} (rs : List PD) (h : dei ψ it δ = .ok ds δ1) (h2 : compDM own tg (dt ψ t) (de ψ elt) ds δ1 = .ok (.list rs) δ2) : de ψ (.comp elt own tg it t) δ = .ok (.list rs) δ2 := E.comp h h2
theorem E.app {i : Nat} {xs : List PD} (h : getD' δ i = some (.list xs)) (h1 : de ψ a δ = .ok d δ1) (h2 : getD' δ1 i = some (.list xs)) (hl : xs.length < SL) : de ψ (.app i a) δ = .ok .none (δ1.set i (some (.list (xs ++ [d])))) := by
  have c : chkL i δ = .ok () δ := by
    unfold chkL
    simp only [h]
  unfold de
  rw [DM.bind_ap c, DM.bind_ap h1]
  unfold appD
  simp only [h2]
  rw [if_pos hl]
theorem E.ext {i : Nat} {xs ys : List PD} (h : getD' δ i = some (.list xs)) (h1 : de ψ a δ = .ok (.list ys) δ1) (h2 : getD' δ1 i = some (.list xs)) (hl : xs.length + ys.length ≤ SL) : de ψ (.ext i a) δ = .ok .none (δ1.set i (some (.list (xs ++ ys)))) := by
  have c : chkL i δ = .ok () δ := by
    unfold chkL
    simp only [h]
  unfold de
  rw [DM.bind_ap c, DM.bind_ap h1]
  unfold extD
  simp only [h2]
  rw [if_pos hl]
theorem E.pop {i j : Nat} {xs : List PD} {o : CEo} {k : Option Int} (h : getD' δ i = some (.list xs)) (h1 : deo ψ o δ = .ok k δ1) (h2 : getD' δ1 i = some (.list xs)) (hj : L2.ixN xs.length (k.getD (-1)) = some j) (hd : xs[j]? = some d) (hl : xs.length ≤ SL) : de ψ (.pop i o) δ = .ok d (δ1.set i (some (.list (xs.eraseIdx j)))) := by
  have c : chkL i δ = .ok () δ := by
    unfold chkL
    simp only [h]
  unfold de
  rw [DM.bind_ap c, DM.bind_ap h1]
  unfold popD
  simp only [h2, hj, hd]
  rw [if_pos hl]
theorem E.thaw {is : List Nat} (h : de ψ a δ = .ok d δ1) (hs : scal d = true) : de ψ (.thaw is a) δ = .ok d δ1 := by
  unfold de
  rw [DM.bind_ap h, if_pos hs]; rfl
/-! tests -/
theorem E.tY : dt ψ .yes δ = .ok true δ := rfl
theorem E.tV {k : Bool} (h : de ψ a δ = .ok d δ1) (h2 : truD d = some k) : dt ψ (.val a) δ = .ok k δ1 := by
  unfold dt
  rw [DM.bind_ap h, h2]; rfl
theorem E.tN {t : CT} {k : Bool} (h : dt ψ t δ = .ok k δ1) : dt ψ (.not t) δ = .ok (!k) δ1 := by
  unfold dt
  rw [DM.bind_ap h]; rfl
theorem E.tA {t u : CT} {k : Bool} {z : DOut Bool} (h : dt ψ t δ = .ok k δ1) (h2 : (if k then dt ψ u δ1 else .ok false δ1) = z) : dt ψ (.and t u) δ = z := by
  unfold dt
  rw [DM.bind_ap h]
  cases k <;> exact h2
theorem E.tO {t u : CT} {k : Bool} {z : DOut Bool} (h : dt ψ t δ = .ok k δ1) (h2 : (if k then .ok true δ1 else dt ψ u δ1) = z) : dt ψ (.or t u) δ = z := by
  unfold dt
  rw [DM.bind_ap h]
  cases k <;> exact h2
/-! sequences -/
theorem E.iS {ds : List PD} (h : de ψ a δ = .ok d δ1) (h2 : seqOf d = some ds) : dei ψ (.seq a) δ = .ok ds δ1 := by
  unfold dei
  rw [DM.bind_ap h, h2]; rfl
theorem E.iR {j : Int} (h : de ψ a δ = .ok (.int j) δ1) (h2 : rngOk 0 j = true) : dei ψ (.rng1 a) δ = .ok (rngD 0 j.toNat) δ1 := by
  unfold dei
  rw [DM.bind_ap h]
  simp only [h2, if_true]; rfl
theorem E.iR2 {i j : Int} (h : de ψ a δ = .ok (.int i) δ1) (h1 : de ψ b δ1 = .ok (.int j) δ2) (h2 : rngOk i j = true) : dei ψ (.rng2 a b) δ = .ok (rngD i (j - i).toNat) δ2 := by
  unfold dei
  rw [DM.bind_ap h, DM.bind_ap h1]
  simp only [h2, if_true]; rfl
theorem E.iE {xs : List PD} (h : de ψ a δ = .ok (.list xs) δ1) : dei ψ (.enum a) δ = .ok (enumD xs 0) δ1 := by
  unfold dei
  rw [DM.bind_ap h]; rfl
theorem E.iZ {ds : List PD} (h : de ψ a δ = .ok d δ1) (h1 : de ψ b δ1 = .ok e δ2) (h2 : zipP d e = some ds) : dei ψ (.zip a b) δ = .ok ds δ2 := by
  unfold dei
  rw [DM.bind_ap h, DM.bind_ap h1, h2]; rfl
/-! statements -/
variable {y : DOut DFl}
theorem S.nil : dxs ψ .nil δ = .ok .next δ := rfl
theorem S.cons {s : CS} {ss : CSs} (h : dx ψ s δ = .ok .next δ1) (h2 : dxs ψ ss δ1 = y) : dxs ψ (.cons s ss) δ = y := by
  unfold dxs
  rw [DM.bind_ap h]; exact h2
theorem S.consR {s : CS} {ss : CSs} (h : dx ψ s δ = .ok (.ret d) δ1) : dxs ψ (.cons s ss) δ = .ok (.ret d) δ1 := by
  unfold dxs
  rw [DM.bind_ap h]; rfl
theorem S.consB {s : CS} {ss : CSs} (h : dx ψ s δ = .ok .brk δ1) : dxs ψ (.cons s ss) δ = .ok .brk δ1 := by
  unfold dxs
  rw [DM.bind_ap h]; rfl
theorem S.consC {s : CS} {ss : CSs} (h : dx ψ s δ = .ok .cont δ1) : dxs ψ (.cons s ss) δ = .ok .cont δ1 := by
  unfold dxs
  rw [DM.bind_ap h]; rfl
theorem S.consX {s : CS} {ss : CSs} {x : Exn} (h : dx ψ s δ = .ex x) : dxs ψ (.cons s ss) δ = .ex x := by
  unfold dxs DM.bind
  rw [h]
theorem S.asg {t : Tg} (h : de ψ a δ = .ok d δ1) (h2 : dasg t d δ1 = .ok () δ2) : dx ψ (.asg t a) δ = .ok .next δ2 := by
  unfold dx
  rw [DM.bind_ap h, DM.bind_ap h2]; rfl
theorem S.par {ts : List Tg} {es : CEs} {ds : List PD} (h : des ψ es δ = .ok ds δ1) (h2 : dpar ts ds δ1 = .ok () δ2) : dx ψ (.par ts es) δ = .ok .next δ2 := by
  unfold dx
  rw [DM.bind_ap h, DM.bind_ap h2]; rfl
theorem S.setIx {i : Nat} {xs : List PD} {k : PD} (h : de ψ a δ = .ok d δ1) (h0 : getD' δ1 i = some (.list xs)) (h2 : de ψ b δ1 = .ok k δ2) (h3 : setDx i k d δ2 = .ok () δ3) : dx ψ (.setIx i b a) δ = .ok .next δ3 := by
  have c : chkL i δ1 = .ok () δ1 := by
    unfold chkL
    simp only [h0]
  unfold dx
  rw [DM.bind_ap h, DM.bind_ap c, DM.bind_ap h2, DM.bind_ap h3]; rfl
theorem S.aug {i : Nat} {m n : Int} (h : getD' δ i = some (.int m)) (h1 : de ψ a δ = .ok (.int n) δ1) (h2 : wrD i (.int (m + n)) δ1 = .ok () δ2) : dx ψ (.aug i a) δ = .ok .next δ2 := by
  have c : intDS i δ = .ok m δ := by
    unfold intDS
    simp only [h]
  unfold dx
  rw [DM.bind_ap c, DM.bind_ap h1]
  show ((DM.ofO (some n)).bind _) δ1 = _
  rw [DM.bind_ap (DM.ofO_ap n), DM.bind_ap h2]; rfl
theorem S.expr (h : de ψ a δ = .ok d δ1) : dx ψ (.expr a) δ = .ok .next δ1 := by
  unfold dx
  rw [DM.bind_ap h]; rfl
theorem S.ret (h : de ψ a δ = .ok d δ1) : dx ψ (.ret a) δ = .ok (.ret d) δ1 := by
  unfold dx
  rw [DM.bind_ap h]; rfl
theorem S.retX {x : Exn} (h : de ψ a δ = .ex x) : dx ψ (.ret a) δ = .ex x := by
  unfold dx DM.bind
  rw [h]
theorem S.ife {t : CT} {p q : CSs} {k : Bool} (h : dt ψ t δ = .ok k δ1) (h2 : (if k then dxs ψ p δ1 else dxs ψ q δ1) = y) : dx ψ (.ife t p q) δ = y := by
  unfold dx
  rw [DM.bind_ap h]
  cases k <;> exact h2
theorem S.for {t : Tg} {it : CI} {p : CSs} {ds : List PD} (h : dei ψ it δ = .ok ds δ1) (h2 : dfor t (dxs ψ p) ds δ1 = y) : dx ψ (.for t it p) δ = y := by
  unfold dx
  rw [DM.bind_ap h]; exact h2
theorem run_ret {fd : FnD} {args : List PD} (hl : args.length = fd.np) (h : dxs ψ fd.body (args.map some ++ List.replicate (fd.ns - fd.np) none) = .ok (.ret r) δ) : drun ψ fd args = .ok r (δ.take fd.np) := by
  unfold drun
  rw [if_pos hl, h]
theorem run_ex {fd : FnD} {args : List PD} {x : Exn} (hl : args.length = fd.np) (h : dxs ψ fd.body (args.map some ++ List.replicate (fd.ns - fd.np) none) = .ex x) : drun ψ fd args = .ex x := by
  unfold drun
  rw [if_pos hl, h]
theorem run_next {fd : FnD} {args : List PD} (hl : args.length = fd.np) (h : dxs ψ fd.body (args.map some ++ List.replicate (fd.ns - fd.np) none) = .ok .next δ) : drun ψ fd args = .ok .none (δ.take fd.np) := by
  unfold drun
  rw [if_pos hl, h]
theorem dfn_run {T : List FnD} {k g : Nat} {fd : FnD} {ds : List PD} {z : DRes} (h : T[g]? = some fd) (h2 : drun (dfn T k) fd ds = z) : dfn T (k + 1) g ds = z := by
  unfold dfn
  simp only [h]
  exact h2
end
end Gn

/-! Hp, part C: what is sorted; ints, tuples of ints. -/
namespace Gn
open PySem PySem.W PyProof.Rows

/-! ### ints -/
abbrev tI (l : List Int) : PD := .tuple (l.map .int)
theorem eqvAll_ints : ∀ l m : List Int, PyData.eqvAll (l.map .int) (m.map .int) = decide (l = m)
  | [], [] => by simp [PyData.eqvAll]
  | [], _ :: _ => by simp [PyData.eqvAll]
  | _ :: _, [] => by simp [PyData.eqvAll]
  | x :: l, y :: m => by
    simp only [List.map_cons, PyData.eqvAll, PyData.eqv, eqvAll_ints l m, List.cons.injEq]
    by_cases h : x = y <;> by_cases h' : l = m <;> simp [h, h']
theorem eqv_tI (l m : List Int) : PyData.eqv (tI l) (tI m) = decide (l = m) := by
  simp only [PyData.eqv, eqvAll_ints]
theorem depthAll_ints : ∀ l : List Int, PyData.depthAll (l.map .int) = 0
  | [] => rfl
  | x :: l => by simp only [List.map_cons, PyData.depthAll, PyData.depth, depthAll_ints l, Nat.max_self]
theorem depth_tI (l : List Int) : PyData.depth (tI l) = 1 := by
  simp only [PyData.depth, depthAll_ints]
theorem alike_tI (l m : List Int) : alike (tI l) (tI m) = true := by
  simp only [alike, alike_ints]
theorem tI_inj {l m : List Int} (h : tI l = tI m) : l = m := by
  have e : l.map PyData.int = m.map PyData.int := by injection h
  exact (List.map_inj_right fun a b h => by injection h).mp e
theorem cmpAll_tI (xs : List (List Int)) : cmpAll (xs.map tI) = true := by
  unfold cmpAll
  simp only [List.all_eq_true, List.mem_map, Bool.and_eq_true, decide_eq_true_eq, Bool.not_eq_true']
  rintro _ ⟨l, _, rfl⟩
  refine ⟨⟨by rw [depth_tI]; decide, rfl⟩, ?_⟩
  rintro _ ⟨m, _, rfl⟩
  exact alike_tI l m
theorem alike_all_tI (xs : List (List Int)) : ∀ x ∈ xs.map tI, ∀ y ∈ xs.map tI, alike x y = true := by
  intro x hx y hy
  obtain ⟨l, _, rfl⟩ := List.mem_map.mp hx
  obtain ⟨m, _, rfl⟩ := List.mem_map.mp hy
  exact alike_tI l m
theorem sortD_tI (xs : List (List Int)) : sortD (xs.map tI) = some (sortL (xs.map tI)) := by
  unfold sortD
  rw [if_pos (cmpAll_tI xs), isort_eq (cmpAll_tI xs)]
def unI : PD → Int
  | .int i => i
  | _ => 0
def unT : PD → List Int
  | .tuple xs => xs.map unI
  | _ => []
theorem unT_tI (l : List Int) : unT (tI l) = l := by
  show (l.map PyData.int).map unI = l
  rw [List.map_map]
  conv => rhs; rw [← List.map_id l]
  apply List.map_congr_left
  intro x _; rfl
theorem unT_map (xs : List (List Int)) : (xs.map tI).map unT = xs := by
  rw [List.map_map]
  conv => rhs; rw [← List.map_id xs]
  apply List.map_congr_left
  intro x _; exact unT_tI x
/-- sorted ones are such, too -/
theorem sort_tI (xs : List (List Int)) : ∃ ys : List (List Int), sortL (xs.map tI) = ys.map tI ∧ ys.Perm xs := by
  have p := sort_perm' (xs.map tI)
  refine ⟨(sortL (xs.map tI)).map unT, ?_, ?_⟩
  · rw [List.map_map]
    conv => lhs; rw [← List.map_id (sortL (xs.map tI))]
    apply List.map_congr_left
    intro z hz
    obtain ⟨l, _, rfl⟩ := List.mem_map.mp (p.subset hz)
    show tI l = tI (unT (tI l))
    rw [unT_tI]
  · have q := p.map unT
    rw [unT_map] at q
    exact q
/-- in, of an int -/
theorem any_int (l : List Int) (p : Int) : ((l.map PyData.int).any fun z => z.eqv (.int p)) = l.contains p := by
  induction l with
  | nil => rfl
  | cons x l ih =>
    simp only [List.map_cons, List.any_cons, ih, PyData.eqv, List.contains_cons]
    congr 1
    by_cases h : x = p
    · subst h; rfl
    · have : (x == p) = false := by simpa using h
      rw [this]
      exact (by simpa using fun e : p = x => h e.symm : (p == x) = false).symm
theorem isin_int {d : PD} {l : List Int} (h : seqOf d = some (l.map .int)) (p : Int) : cmpD .isin (.int p) d = some (l.contains p) := by
  show isinC (.int p) d = _
  unfold isinC
  rw [h]
  show (if decide (PyData.depth (.int p) ≤ 60) = true then _ else _) = _
  rw [if_pos (by rfl), any_int]
theorem notin_int {d : PD} {l : List Int} (h : seqOf d = some (l.map .int)) (p : Int) : cmpD .notin (.int p) d = some (!l.contains p) := by
  show (isinC (.int p) d).map not = _
  have := isin_int h p
  have : isinC (.int p) d = _ := this
  rw [this]; rfl
theorem boolsD_map (bs : List Bool) : boolsD (bs.map .bool) = some bs := by
  induction bs with
  | nil => rfl
  | cons b bs ih => simp only [List.map_cons, boolsD, ih, Option.map_some]
theorem all_bools (bs : List Bool) : vd (biD .all [.list (bs.map .bool)]) = some (.bool (bs.all id)) := by
  simp only [biD, boolsD_map, Option.map_some]
  rfl
theorem any_bools (bs : List Bool) : vd (biD .any [.list (bs.map .bool)]) = some (.bool (bs.any id)) := by
  simp only [biD, boolsD_map, Option.map_some]
  rfl
theorem rngD_map (lo : Int) (n : Nat) : rngD lo n = (List.range n).map fun (i : Nat) => PyData.int (lo + (i : Int)) := by
  induction n generalizing lo with
  | zero => rfl
  | succ n ih =>
    rw [rngD, ih, List.range_succ_eq_map, List.map_cons, List.map_map]
    congr 1
    · simp
    · apply List.map_congr_left
      intro i _
      show PyData.int (lo + 1 + i) = .int (lo + ((i + 1 : Nat) : Int))
      congr 1
      omega
theorem filter_true {α : Type} (xs : List α) : (xs.filter fun _ => true) = xs := List.filter_eq_self.mpr fun _ _ => rfl
end Gn

/-! Hp, part D: a run over fewer known slots stands over more. -/
namespace Gn
open PySem

/-- what is known in δ is so in δ' -/
def DLe (δ δ' : DEnv) : Prop := δ.length = δ'.length ∧ ∀ i d, getD' δ i = some d → getD' δ' i = some d
theorem DLe.rfl' {δ : DEnv} : DLe δ δ := ⟨rfl, fun _ _ h => h⟩
theorem DLe.set {δ δ' : DEnv} {i : Nat} {x y : Option PD} (h : DLe δ δ') (hx : ∀ d, x = some d → y = some d) : DLe (δ.set i x) (δ'.set i y) := by
  refine ⟨by rw [List.length_set, List.length_set]; exact h.1, fun j d e => ?_⟩
  by_cases q : i = j
  · subst q
    by_cases hl : i < δ.length
    · rw [getD'_set_self hl] at e
      rw [getD'_set_self (h.1 ▸ hl)]
      exact hx d e
    · unfold getD' at e
      rw [List.getElem?_eq_none (by rw [List.length_set]; omega)] at e
      cases e
  · rw [getD'_set q] at e ⊢
    exact h.2 j d e
def Mo {α : Type} (m : DM α) : Prop := ∀ δ δ', DLe δ δ' → match m δ with
  | .ok a δ1 => ∃ δ1', m δ' = .ok a δ1' ∧ DLe δ1 δ1'
  | .ex c => m δ' = .ex c
  | .bad => True
section
variable {α β : Type} {m : DM α} {f : α → DM β}
theorem Mo.bind (h : Mo m) (g : ∀ a, Mo (f a)) : Mo (m.bind f) := fun δ δ' l => by
  have q := h δ δ' l
  unfold DM.bind
  cases e : m δ with
  | bad => trivial
  | ex c =>
    rw [e] at q
    dsimp only at q ⊢
    rw [q]
  | ok a δ1 =>
    rw [e] at q
    obtain ⟨δ1', q1, q2⟩ := q
    have r := g a δ1 δ1' q2
    dsimp only
    rw [q1]
    exact r
theorem Mo.ret {a : α} : Mo (DM.ret a) := fun δ δ' l => ⟨δ', rfl, l⟩
theorem Mo.ofO {o : Option α} : Mo (DM.ofO o) := fun δ δ' l => by
  cases o with
  | none => trivial
  | some a => exact ⟨δ', rfl, l⟩
theorem Mo.bad : Mo (DM.bad : DM α) := fun _ _ _ => trivial
theorem Mo.ite {k : Bool} {m' : DM α} (h : Mo m) (h' : Mo m') : Mo (if k then m else m') := by
  cases k
  · exact h'
  · exact h
theorem Mo.rd {i : Nat} : Mo (rdD i) := fun δ δ' l => by
  unfold rdD
  cases e : getD' δ i with
  | none => trivial
  | some d =>
    rw [l.2 i d e]
    exact ⟨δ', rfl, l⟩
theorem Mo.wr {i : Nat} {d : PD} : Mo (wrD i d) := fun δ δ' l => by
  unfold wrD
  by_cases h : i < δ.length
  · rw [if_pos h, if_pos (l.1 ▸ h)]
    exact ⟨_, rfl, l.set fun _ e => e⟩
  · rw [if_neg h]; trivial
theorem Mo.chkL {i : Nat} : Mo (chkL i) := fun δ δ' l => by
  unfold Gn.chkL
  cases e : getD' δ i with
  | none => trivial
  | some d =>
    rw [l.2 i d e]
    cases d <;> first | exact ⟨δ', rfl, l⟩ | trivial
theorem Mo.intDS {i : Nat} : Mo (intDS i) := fun δ δ' l => by
  unfold Gn.intDS
  cases e : getD' δ i with
  | none => trivial
  | some d =>
    rw [l.2 i d e]
    cases d <;> first | exact ⟨δ', rfl, l⟩ | trivial
theorem Mo.appD {i : Nat} {d : PD} : Mo (appD i d) := fun δ δ' l => by
  unfold Gn.appD
  cases e : getD' δ i with
  | none => trivial
  | some x =>
    rw [l.2 i x e]
    cases x with
    | list xs =>
      dsimp only
      by_cases h : xs.length < SL
      · rw [if_pos h, if_pos h]
        exact ⟨_, rfl, l.set fun _ e => e⟩
      · rw [if_neg h]; trivial
    | _ => trivial
theorem Mo.extD {i : Nat} {d : PD} : Mo (extD i d) := fun δ δ' l => by
  unfold Gn.extD
  cases e : getD' δ i with
  | none => trivial
  | some x =>
    rw [l.2 i x e]
    cases x with
    | list xs =>
      cases d with
      | list ys =>
        dsimp only
        by_cases h : xs.length + ys.length ≤ SL
        · rw [if_pos h, if_pos h]
          exact ⟨_, rfl, l.set fun _ e => e⟩
        · rw [if_neg h]; trivial
      | _ => trivial
    | _ => trivial
theorem Mo.popD {i : Nat} {k : Option Int} : Mo (popD i k) := fun δ δ' l => by
  unfold Gn.popD
  cases e : getD' δ i with
  | none => trivial
  | some x =>
    rw [l.2 i x e]
    cases x with
    | list xs =>
      dsimp only
      cases L2.ixN xs.length (k.getD (-1)) with
      | none => trivial
      | some j =>
        dsimp only
        cases xs[j]? with
        | none => trivial
        | some d =>
          dsimp only
          by_cases h : xs.length ≤ SL
          · rw [if_pos h, if_pos h]
            exact ⟨_, rfl, l.set fun _ e => e⟩
          · rw [if_neg h]; trivial
    | _ => trivial
theorem Mo.setDx {i : Nat} {k d : PD} : Mo (setDx i k d) := fun δ δ' l => by
  unfold Gn.setDx
  cases e : getD' δ i with
  | none => trivial
  | some x =>
    rw [l.2 i x e]
    cases x with
    | list xs =>
      cases k with
      | int k =>
        dsimp only
        cases L2.ixN xs.length k with
        | none => trivial
        | some j => exact ⟨_, rfl, l.set fun _ e => e⟩
      | _ => trivial
    | _ => trivial
theorem DLe.wipe {δ δ' : DEnv} (l : DLe δ δ') : ∀ own : List Nat, DLe (wipeD δ own) (wipeD δ' own)
  | [] => l
  | i :: is => (DLe.wipe l is).set fun _ e => e
theorem DLe.back {δ₀ δ₀' δ δ' : DEnv} (l₀ : DLe δ₀ δ₀') (l : DLe δ δ') : ∀ own : List Nat, DLe (backD δ₀ δ own) (backD δ₀' δ' own)
  | [] => l
  | i :: is => (DLe.back l₀ l is).set fun d e => l₀.2 i d e
theorem DLe.backL {δ δ' : DEnv} (l : DLe δ δ') : ∀ (as : List AR) (os : DEnv), DLe (backL δ as os) (backL δ' as os)
  | [], _ => l
  | .val _ :: r, os => DLe.backL l r os.tail
  | .ref i :: r, os => (DLe.backL l r os.tail).set fun _ e => e
theorem DLe.daVs {δ δ' : DEnv} (l : DLe δ δ') : ∀ (as : List AR) (ds : List PD), daVs δ as = some ds → daVs δ' as = some ds
  | [], _, e => e
  | a :: as, ds, e => by
    simp only [Gn.daVs] at e ⊢
    cases h1 : daV δ a with
    | none => rw [h1] at e; cases e
    | some d =>
      rw [h1] at e
      cases h2 : Gn.daVs δ as with
      | none => rw [h2] at e; cases e
      | some ds' =>
        rw [h2] at e
        have q1 : daV δ' a = some d := by
          cases a with
          | val x => exact h1
          | ref i =>
            simp only [daV] at h1 ⊢
            cases e3 : getD' δ i with
            | none => rw [e3] at h1; cases h1
            | some y =>
              rw [e3] at h1
              rw [l.2 i y e3]
              exact h1
        rw [q1, DLe.daVs l as ds' h2]
        exact e
theorem Mo.callD {ψ : DFns} {g : Nat} {as : List AR} : Mo (callD ψ g as) := fun δ δ' l => by
  unfold Gn.callD
  cases e : Gn.daVs δ as with
  | none => trivial
  | some ds =>
    rw [l.daVs as ds e]
    dsimp only
    cases ψ g ds with
    | ok d outs => exact ⟨_, rfl, l.backL as outs⟩
    | ex c => rfl
    | bad => trivial
mutual
theorem Mo.dasg : ∀ (t : Tg) (d : PD), Mo (dasg t d)
  | .name i, d => Mo.wr
  | .nil, d => by
    cases d with
    | tuple ds => cases ds <;> first | exact Mo.ret | exact Mo.bad
    | _ => exact Mo.bad
  | .cons t ts, d => by
    cases d with
    | tuple ds =>
      cases ds with
      | nil => exact Mo.bad
      | cons d ds => exact (Mo.dasg t d).bind fun _ => Mo.dasgL ts ds
    | _ => exact Mo.bad
theorem Mo.dasgL : ∀ (t : Tg) (ds : List PD), Mo (dasgL t ds)
  | .name i, d => by cases d <;> exact Mo.bad
  | .nil, d => by cases d <;> first | exact Mo.ret | exact Mo.bad
  | .cons t ts, d => by
    cases d with
    | nil => exact Mo.bad
    | cons d ds => exact (Mo.dasg t d).bind fun _ => Mo.dasgL ts ds
end
theorem Mo.comp {own : List Nat} {tg : Tg} {c : DM Bool} {el : DM PD} (hc : Mo c) (he : Mo el) : ∀ ds : List PD, Mo (compD own tg c el ds)
  | [] => Mo.ret
  | d :: ds => fun δ δ' l => by
    have q : Mo ((Gn.dasg tg d).bind fun _ => c.bind fun k => if k then el.bind fun y => (compD own tg c el ds).bind fun ys => DM.ret (y :: ys) else compD own tg c el ds) :=
      (Mo.dasg tg d).bind fun _ => hc.bind fun k => Mo.ite (he.bind fun y => (Mo.comp hc he ds).bind fun ys => Mo.ret) (Mo.comp hc he ds)
    exact q (wipeD δ own) (wipeD δ' own) (l.wipe own)
theorem Mo.compM {own : List Nat} {tg : Tg} {c : DM Bool} {el : DM PD} {ds : List PD} (hc : Mo c) (he : Mo el) : Mo (compDM own tg c el ds) := fun δ δ' l => by
  unfold compDM
  split
  · rename_i e
    split at e
    · rename_i hn
      have q := Mo.comp (own := own) (tg := tg) hc he ds δ δ' l
      cases e1 : compD own tg c el ds δ with
      | bad => rw [e1] at e; cases e
      | ex c => rw [e1] at e; cases e
      | ok ys δ1 =>
        rw [e1] at q e
        obtain ⟨δ1', q1, q2⟩ := q
        cases e
        rw [if_pos hn, q1]
        exact ⟨_, rfl, l.back q2 own⟩
    · cases e
  · rename_i e
    split at e
    · cases e1 : compD own tg c el ds δ with
      | bad => rw [e1] at e; cases e
      | ex c => rw [e1] at e; cases e
      | ok ys δ1 => rw [e1] at e; cases e
    · cases e
  · trivial
end
section
variable {ψ : DFns}
theorem Mo.scal {d : PD} : Mo (if Gn.scal d then DM.ret d else DM.bad) := Mo.ite Mo.ret Mo.bad
mutual
theorem mE' : ∀ e : CE, Mo (de ψ e)
  | .var i => Mo.rd
  | .con k => Mo.ret
  | .tup es => (mEs' es).bind fun _ => Mo.ret
  | .lst es => (mEs' es).bind fun _ => Mo.ret
  | .bin o a b => (mE' a).bind fun _ => (mE' b).bind fun _ => Mo.ofO
  | .neg a => (mE' a).bind fun _ => Mo.ofO
  | .not a => (mE' a).bind fun _ => Mo.ofO.bind fun _ => Mo.ret
  | .and a b => (mE' a).bind fun _ => Mo.ofO.bind fun _ => Mo.ite (mE' b) Mo.ret
  | .or a b => (mE' a).bind fun _ => Mo.ofO.bind fun _ => Mo.ite Mo.ret (mE' b)
  | .ite c a b => (mT' c).bind fun _ => Mo.ite (mE' a) (mE' b)
  | .cmp o a b => (mE' a).bind fun _ => (mE' b).bind fun _ => Mo.ofO.bind fun _ => Mo.ret
  | .cmp2 o1 o2 a b c => (mE' a).bind fun _ => (mE' b).bind fun _ => Mo.ofO.bind fun _ => Mo.ite ((mE' c).bind fun _ => Mo.ofO.bind fun _ => Mo.ret) Mo.ret
  | .sub a b => (mE' a).bind fun _ => (mE' b).bind fun _ => Mo.ofO
  | .slc a lo hi => (mE' a).bind fun _ => (mO' lo).bind fun _ => (mO' hi).bind fun _ => Mo.ofO
  | .rev a => (mE' a).bind fun _ => Mo.ofO
  | .call f rs es => (mA' es rs).bind fun _ => Mo.callD
  | .bi b es => (mEs' es).bind fun _ => Mo.ofO
  | .isi a ts => (mE' a).bind fun _ => Mo.ret
  | .lstI it => (mI' it).bind fun _ => Mo.ret
  | .tupI it => (mI' it).bind fun _ => Mo.ret
  | .comp elt own tg it c => (mI' it).bind fun _ => Mo.compM (mT' c) (mE' elt)
  | .app i e => Mo.chkL.bind fun _ => (mE' e).bind fun _ => Mo.appD
  | .ext i e => Mo.chkL.bind fun _ => (mE' e).bind fun _ => Mo.extD
  | .pop i e => Mo.chkL.bind fun _ => (mO' e).bind fun _ => Mo.popD
  | .thaw _ e => (mE' e).bind fun _ => Mo.scal
theorem mEs' : ∀ es : CEs, Mo (des ψ es)
  | .nil => Mo.ret
  | .cons e es => (mE' e).bind fun _ => (mEs' es).bind fun _ => Mo.ret
theorem mA' : ∀ (es : CEs) (rs : List Bool), Mo (dea ψ es rs)
  | .nil, rs => by
    have : dea ψ .nil rs = DM.ret [] := by cases rs <;> simp only [dea]
    rw [this]; exact Mo.ret
  | .cons e es, rs => by
    by_cases h : ∃ i rs', e = .var i ∧ rs = true :: rs'
    · obtain ⟨i, rs', rfl, rfl⟩ := h
      simp only [dea]
      exact Mo.chkL.bind fun _ => (mA' es rs').bind fun _ => Mo.ret
    · have : dea ψ (.cons e es) rs = ((de ψ e).bind fun d => (dea ψ es rs.tail).bind fun as => DM.ret (.val d :: as)) := by
        cases rs with
        | nil => cases e <;> simp only [dea]
        | cons r rs =>
          cases r with
          | false => cases e <;> simp only [dea]
          | true =>
            cases e with
            | var i => exact (h ⟨i, rs, rfl, rfl⟩).elim
            | _ => simp only [dea]
      rw [this]
      exact (mE' e).bind fun _ => (mA' es rs.tail).bind fun _ => Mo.ret
theorem mO' : ∀ o : CEo, Mo (deo ψ o)
  | .none => Mo.ret
  | .some e => (mE' e).bind fun _ => Mo.ofO.bind fun _ => Mo.ret
theorem mT' : ∀ t : CT, Mo (dt ψ t)
  | .yes => Mo.ret
  | .val e => (mE' e).bind fun _ => Mo.ofO
  | .not t => (mT' t).bind fun _ => Mo.ret
  | .and a b => (mT' a).bind fun _ => Mo.ite (mT' b) Mo.ret
  | .or a b => (mT' a).bind fun _ => Mo.ite Mo.ret (mT' b)
  | .ite c a b => (mT' c).bind fun _ => Mo.ite (mT' a) (mT' b)
theorem mI' : ∀ it : CI, Mo (dei ψ it)
  | .seq e => (mE' e).bind fun _ => Mo.ofO
  | .rng1 e => (mE' e).bind fun d => by
    cases d with
    | int j =>
      dsimp only
      by_cases h : rngOk 0 j = true
      · rw [if_pos h]; exact Mo.ret
      · rw [if_neg h]; exact Mo.bad
    | _ => exact Mo.bad
  | .rng2 a b => (mE' a).bind fun d => (mE' b).bind fun e => by
    cases d with
    | int i =>
      cases e with
      | int j =>
        dsimp only
        by_cases h : rngOk i j = true
        · rw [if_pos h]; exact Mo.ret
        · rw [if_neg h]; exact Mo.bad
      | _ => exact Mo.bad
    | _ => exact Mo.bad
  | .enum e => (mE' e).bind fun _ => Mo.ofO
  | .zip a b => (mE' a).bind fun _ => (mE' b).bind fun _ => Mo.ofO
end
theorem Mo.par : ∀ (ts : List Tg) (ds : List PD), Mo (dpar ts ds)
  | [], [] => Mo.ret
  | t :: ts, d :: ds => (Mo.dasg t d).bind fun _ => Mo.par ts ds
  | [], _ :: _ => Mo.bad
  | _ :: _, [] => Mo.bad
theorem Mo.fl {g : DM DFl} (h : Mo g) (f : DFl) : Mo (match f with
      | .next => g
      | .cont => g
      | .brk => DM.ret .next
      | .ret x => DM.ret (.ret x)) := by
  cases f <;> first | exact h | exact Mo.ret
theorem Mo.for {t : Tg} {b : DM DFl} (hb : Mo b) : ∀ ds : List PD, Mo (dfor t b ds)
  | [] => Mo.ret
  | d :: ds => (Mo.dasg t d).bind fun _ => hb.bind fun f => Mo.fl (Mo.for hb ds) f
theorem Mo.while {c : DM Bool} {b : DM DFl} (hc : Mo c) (hb : Mo b) : ∀ n, Mo (dwhile c b n)
  | 0 => Mo.bad
  | n + 1 => hc.bind fun _ => Mo.ite (hb.bind fun f => Mo.fl (Mo.while hc hb n) f) Mo.ret
theorem Mo.try {b : DM DFl} {hs : List (Nat × Hr)} (hb : Mo b) : Mo (dtry b hs) := fun δ δ' l => by
  have q := hb δ δ' l
  unfold dtry
  cases e : b δ with
  | bad => trivial
  | ok a δ1 =>
    rw [e] at q
    obtain ⟨δ1', q1, q2⟩ := q
    rw [q1]
    exact ⟨δ1', rfl, q2⟩
  | ex c =>
    rw [e] at q
    have q : b δ' = .ex c := q
    rw [q]
    dsimp only
    cases hs.lookup c.cls with
    | none => rfl
    | some h => exact ⟨δ', rfl, l⟩
mutual
theorem mX' : ∀ s : CS, Mo (dx ψ s)
  | .asg t e => (mE' e).bind fun _ => (Mo.dasg t _).bind fun _ => Mo.ret
  | .par ts es => (mEs' es).bind fun _ => (Mo.par ts _).bind fun _ => Mo.ret
  | .setIx i ix e => (mE' e).bind fun _ => Mo.chkL.bind fun _ => (mE' ix).bind fun _ => Mo.setDx.bind fun _ => Mo.ret
  | .aug i e => Mo.intDS.bind fun _ => (mE' e).bind fun _ => Mo.ofO.bind fun _ => Mo.wr.bind fun _ => Mo.ret
  | .expr e => (mE' e).bind fun _ => Mo.ret
  | .ret e => (mE' e).bind fun _ => Mo.ret
  | .retN => Mo.ret
  | .ife c a b => (mT' c).bind fun _ => Mo.ite (mXs' a) (mXs' b)
  | .whl c b => Mo.while (mT' c) (mXs' b) WF
  | .for t it b => (mI' it).bind fun _ => Mo.for (mXs' b) _
  | .rais c => fun _ _ _ => rfl
  | .try b hs => Mo.try (mXs' b)
  | .pass => Mo.ret
  | .brk => Mo.ret
  | .cont => Mo.ret
theorem mXs' : ∀ ss : CSs, Mo (dxs ψ ss)
  | .nil => Mo.ret
  | .cons s ss => (mX' s).bind fun f => by
    cases f <;> first | exact mXs' ss | exact Mo.ret
end
end
end Gn
namespace Gn
open PySem
/-! ### what statements change -/
mutual
def asS : CS → List Nat
  | .asg t e => namesT t ++ mutE e
  | .par ts es => ts.flatMap namesT ++ mutEs es
  | .setIx i ix e => i :: (mutE ix ++ mutE e)
  | .aug i e => i :: mutE e
  | .expr e => mutE e
  | .ret e => mutE e
  | .retN => []
  | .ife c a b => mutT c ++ (asSs a ++ asSs b)
  | .whl c b => mutT c ++ asSs b
  | .for t it b => namesT t ++ (mutI it ++ asSs b)
  | .rais _ => []
  | .try b _ => asSs b
  | .pass => []
  | .brk => []
  | .cont => []
def asSs : CSs → List Nat
  | .nil => []
  | .cons s ss => asS s ++ asSs ss
end
section
variable {ψ : DFns} {T : List Nat}
theorem MF.wr {i : Nat} {d : PD} (h : i ∈ T) : MF T (wrD i d) := fun δ a δ' e => by
  unfold wrD at e
  split at e
  · cases e; exact Fm.set h
  · cases e
theorem MF.intDS {i : Nat} : MF T (intDS i) := fun δ a δ' e => by
  unfold Gn.intDS at e
  split at e
  · cases e; exact Fm.rfl'
  · cases e
theorem MF.setDx {i : Nat} {k d : PD} (h : i ∈ T) : MF T (setDx i k d) := fun δ a δ' e => by
  unfold Gn.setDx at e
  split at e
  · split at e
    · cases e; exact Fm.set h
    · cases e
  · cases e
theorem MF.par : ∀ {ts : List Tg} {ds : List PD}, (∀ i ∈ ts.flatMap namesT, i ∈ T) → MF T (dpar ts ds)
  | [], [], _ => MF.ret
  | t :: ts, d :: ds, h => (MF.dasg fun i hi => h i (by rw [List.flatMap_cons]; exact List.mem_append_left _ hi)).bind fun _ => MF.par fun i hi => h i (by rw [List.flatMap_cons]; exact List.mem_append_right _ hi)
  | [], _ :: _, _ => MF.bad
  | _ :: _, [], _ => MF.bad
theorem MF.fl {g : DM DFl} (h : MF T g) (f : DFl) : MF T (match f with
      | .next => g
      | .cont => g
      | .brk => DM.ret .next
      | .ret x => DM.ret (.ret x)) := by
  cases f <;> first | exact h | exact MF.ret
theorem MF.for {t : Tg} {b : DM DFl} (ht : ∀ i ∈ namesT t, i ∈ T) (hb : MF T b) : ∀ ds : List PD, MF T (dfor t b ds)
  | [] => MF.ret
  | d :: ds => (MF.dasg ht).bind fun _ => hb.bind fun f => MF.fl (MF.for ht hb ds) f
theorem MF.while {c : DM Bool} {b : DM DFl} (hc : MF T c) (hb : MF T b) : ∀ n, MF T (dwhile c b n)
  | 0 => MF.bad
  | n + 1 => hc.bind fun _ => MF.ite (hb.bind fun f => MF.fl (MF.while hc hb n) f) MF.ret
theorem MF.try {b : DM DFl} {hs : List (Nat × Hr)} (hb : MF T b) : MF T (dtry b hs) := fun δ a δ' e => by
  unfold dtry at e
  cases e1 : b δ with
  | bad => rw [e1] at e; cases e
  | ok r δ1 =>
    rw [e1] at e
    cases e
    exact hb _ _ _ e1
  | ex c =>
    rw [e1] at e
    dsimp only at e
    split at e
    · cases e; exact Fm.rfl'
    · cases e
mutual
theorem frX : ∀ s : CS, MF (asS s) (dx ψ s)
  | .asg t e => ((fr e).mono app_r').bind fun _ => (MF.dasg fun i hi => app_l' i hi).bind fun _ => MF.ret
  | .par ts es => ((frs es).mono app_r').bind fun _ => (MF.par fun i hi => app_l' i hi).bind fun _ => MF.ret
  | .setIx i ix e => ((fr e).mono fun j h => List.mem_cons_of_mem _ (app_r' j h)).bind fun _ => MF.chkL.bind fun _ => ((fr ix).mono fun j h => List.mem_cons_of_mem _ (app_l' j h)).bind fun _ => (MF.setDx (List.mem_cons_self ..)).bind fun _ => MF.ret
  | .aug i e => MF.intDS.bind fun _ => ((fr e).mono fun j h => List.mem_cons_of_mem _ h).bind fun _ => MF.ofO.bind fun _ => (MF.wr (List.mem_cons_self ..)).bind fun _ => MF.ret
  | .expr e => (fr e).bind fun _ => MF.ret
  | .ret e => (fr e).bind fun _ => MF.ret
  | .retN => MF.ret
  | .ife c a b => ((frT c).mono app_l').bind fun _ => MF.ite ((frXs a).mono fun i h => app_r' i (app_l' i h)) ((frXs b).mono fun i h => app_r' i (app_r' i h))
  | .whl c b => MF.while ((frT c).mono app_l') ((frXs b).mono app_r') WF
  | .for t it b => ((frI it).mono fun i h => app_r' i (app_l' i h)).bind fun _ => MF.for (fun i h => app_l' i h) ((frXs b).mono fun i h => app_r' i (app_r' i h)) _
  | .rais c => fun δ d δ' e => by cases e
  | .try b hs => MF.try (frXs b)
  | .pass => MF.ret
  | .brk => MF.ret
  | .cont => MF.ret
theorem frXs : ∀ ss : CSs, MF (asSs ss) (dxs ψ ss)
  | .nil => MF.ret
  | .cons s ss => ((frX s).mono app_l').bind fun f => by
    cases f <;> first | exact (frXs ss).mono app_r' | exact MF.ret
end
/-- a run over known slots stands with more of them -/
theorem lift_run {ss : CSs} {δ δ1 δ' : DEnv} {f : DFl} (h : dxs ψ ss δ = .ok f δ1) (l : DLe δ δ') : ∃ δ1', dxs ψ ss δ' = .ok f δ1' ∧ DLe δ1 δ1' ∧ ∀ i, i ∉ asSs ss → getD' δ1' i = getD' δ' i := by
  have q := mXs' (ψ := ψ) ss δ δ' l
  rw [h] at q
  obtain ⟨δ1', q1, q2⟩ := q
  exact ⟨δ1', q1, q2, (frXs ss _ _ _ q1).2⟩
theorem getD'_ext {δ δ' : DEnv} (hl : δ.length = δ'.length) (h : ∀ i, i < δ.length → getD' δ i = getD' δ' i) : δ = δ' := by
  apply List.ext_getElem hl
  intro i h1 h2
  have := h i h1
  unfold getD' at this
  rw [List.getElem?_eq_getElem h1, List.getElem?_eq_getElem h2] at this
  exact this
/-- all but slot i -/
def but (i : Nat) (δ : DEnv) : Bool := (List.range δ.length).all fun j => j == i || (getD' δ j).isSome
/-- .. where one slot alone is not known -/
theorem lift_one {ss : CSs} {i : Nat} {t : PD} {δ δ1 : DEnv} {f : DFl} (h : dxs ψ ss δ = .ok f δ1) (hi : i < δ.length) (hn : getD' δ i = none) (ha : (asSs ss).contains i = false) : ∃ δ1', dxs ψ ss (δ.set i (some t)) = .ok f δ1' ∧ DLe δ1 δ1' ∧ getD' δ1' i = some t ∧ δ1'.length = δ.length := by
  have l : DLe δ (δ.set i (some t)) := by
    refine ⟨(List.length_set ..).symm, fun j d e => ?_⟩
    by_cases q : i = j
    · subst q; rw [hn] at e; cases e
    · rw [getD'_set q]; exact e
  obtain ⟨δ1', h1, h2, h3⟩ := lift_run h l
  have hx := h3 i (by simpa using ha)
  rw [getD'_set_self hi] at hx
  refine ⟨δ1', h1, h2, hx, ?_⟩
  have := (frXs (ψ := ψ) ss _ _ _ h1).1
  rw [this, List.length_set]
end
end Gn

/-! Lw, part A: the laws' own source of draws. -/
namespace Gn
open PySem
def fTake : FnD := ⟨2, 6, (.cons (.ife (.val (.cmp .gt (.sub (.var 0) (.con (.int 0))) (.con (.int 0)))) (.cons (.asg (.name 2) (.bin .mod (.bi .int (.cons (.sub (.var 0) (.con (.int 0))) .nil)) (.var 1))) (.cons (.setIx 0 (.con (.int 0)) (.bin .fdiv (.sub (.var 0) (.con (.int 0))) (.var 1))) (.cons (.ret (.var 2)) .nil))) .nil) (.cons (.setIx 0 (.con (.int 2)) (.bin .add (.sub (.var 0) (.con (.int 2))) (.con (.int 1)))) (.cons (.asg (.name 3) (.bin .mod (.bi .int (.cons (.bin .mul (.bin .add (.sub (.var 0) (.con (.int 1))) (.bin .mul (.con (.int 48271)) (.sub (.var 0) (.con (.int 2))))) (.bin .add (.con (.int 39373)) (.sub (.var 0) (.con (.int 2))))) .nil)) (.con (.int 2147483647)))) (.cons (.asg (.name 4) (.bin .add (.bin .mod (.bi .int (.cons (.var 3) .nil)) (.con (.int 40009))) (.con (.int 7)))) (.cons (.asg (.name 5) (.bin .mod (.bi .int (.cons (.bin .mul (.bin .add (.bin .add (.var 3) (.sub (.var 0) (.con (.int 2)))) (.bin .fdiv (.sub (.var 0) (.con (.int 1))) (.con (.int 1000003)))) (.var 4)) .nil)) (.con (.int 2147483629)))) (.cons (.ret (.bin .mod (.bi .int (.cons (.bin .fdiv (.bin .mod (.bi .int (.cons (.bin .add (.bin .mul (.var 5) (.con (.int 48271))) (.var 3)) .nil)) (.con (.int 2147483587))) (.con (.int 64))) .nil)) (.var 1))) .nil))))))⟩
/-- a source of draws -/
def Box (n : Nat) (t : PD) : Prop := ∃ a b c : Int, t = .list [.int a, .int b, .int c] ∧ 0 ≤ a ∧ 0 ≤ c ∧ c ≤ n ∧ 0 ≤ b
theorem mulOk_r {i j : Int} (h1 : -(2 ^ 64) < j) (h2 : j < 2 ^ 64) : mulOk i j = true := by
  unfold mulOk
  simp only [Bool.or_eq_true, Bool.and_eq_true, decide_eq_true_eq]
  exact .inr ⟨h1, h2⟩
theorem mulOk_l {i j : Int} (h1 : -(2 ^ 64) < i) (h2 : i < 2 ^ 64) : mulOk i j = true := by
  unfold mulOk
  simp only [Bool.or_eq_true, Bool.and_eq_true, decide_eq_true_eq]
  exact .inl ⟨h1, h2⟩
theorem bmul {i j : Int} (h : mulOk i j = true) : vd (binD .mul (.int i) (.int j)) = some (.int (i * j)) := by
  simp only [binD, h, if_true]
  rfl
theorem bmod {i j : Int} (h : 0 < j) : vd (binD .mod (.int i) (.int j)) = some (.int (i.fmod j)) := by
  have : decide (j ≠ 0) = true := by simp only [decide_eq_true_eq]; omega
  simp only [binD, this, if_true]
  rfl
theorem bdiv {i j : Int} (h : 0 < j) (h2 : j < 1073741824) : vd (binD .fdiv (.int i) (.int j)) = some (.int (i.fdiv j)) := by
  have : (decide (j ≠ 0) && decide (j.natAbs < 1073741824)) = true := by
    simp only [Bool.and_eq_true, decide_eq_true_eq]
    exact ⟨by omega, by omega⟩
  simp only [binD, this, if_true]
  rfl
theorem fmod_rng (x : Int) {b : Int} (h : 0 < b) : 0 ≤ x.fmod b ∧ x.fmod b < b := by
  rw [Int.fmod_eq_emod_of_nonneg _ (Int.le_of_lt h)]
  exact ⟨Int.emod_nonneg _ (by omega), Int.emod_lt_of_pos _ h⟩
theorem fdiv_nn {x b : Int} (h : 0 < b) (hx : 0 ≤ x) : 0 ≤ x.fdiv b := by
  rw [Int.fdiv_eq_ediv_of_nonneg _ (Int.le_of_lt h)]
  exact Int.ediv_nonneg hx (Int.le_of_lt h)
theorem cgt {i j : Int} : cmpD .gt (.int i) (.int j) = some (decide (j < i)) := rfl
theorem take_ok (ψ : DFns) {n : Nat} (hn : n < 2 ^ 40) {t : PD} (hb : Box n t) {b : Int} (b0 : 0 < b) (b1 : b < 1073741824) :
    ∃ d t', drun ψ fTake [t, .int b] = .ok (.int d) [some t', some (.int b)] ∧ 0 ≤ d ∧ d < b ∧ Box (n + 1) t' := by
  obtain ⟨x, y, z, rfl, hx, hz, hzn, hy⟩ := hb
  by_cases h : 0 < x
  · refine ⟨x.fmod b, .list [.int (x.fdiv b), .int y, .int z], ?_, (fmod_rng x b0).1, (fmod_rng x b0).2, x.fdiv b, y, z, rfl, fdiv_nn b0 hx, hz, by omega, hy⟩
    refine run_ret (δ := [some (.list [.int (x.fdiv b), .int y, .int z]), some (.int b), some (.int (x.fmod b)), none, none, none]) rfl ?_
    refine S.consR ?_
    refine S.ife (k := true) (E.tV (E.cmp (E.sub (E.var rfl) E.con rfl) E.con (by rw [show Kc.d (.int 0) = .int 0 from rfl, cgt, decide_eq_true h])) rfl) ?_
    rw [if_pos rfl]
    refine S.cons (S.asg (E.bin (E.bi (E.cons (E.sub (E.var rfl) E.con rfl) E.nil) rfl) (E.var rfl) (bmod b0)) rfl) ?_
    refine S.cons (S.setIx (E.bin (E.sub (E.var rfl) E.con rfl) (E.var rfl) (bdiv b0 b1)) rfl E.con rfl) ?_
    exact S.consR (S.ret (E.var rfl))
  · have hx0 : x = 0 := by omega
    subst hx0
    have hz' : z < 2 ^ 40 := by omega
    have w := fmod_rng (((y + 48271 * (z + 1)) * (39373 + (z + 1))).fmod 2147483647) (b := 40009) (by decide)
    refine ⟨((((((((y + 48271 * (z + 1)) * (39373 + (z + 1))).fmod 2147483647 + (z + 1) + y.fdiv 1000003) * ((((y + 48271 * (z + 1)) * (39373 + (z + 1))).fmod 2147483647).fmod 40009 + 7)).fmod 2147483629) * 48271 + ((y + 48271 * (z + 1)) * (39373 + (z + 1))).fmod 2147483647).fmod 2147483587).fdiv 64).fmod b,
      .list [.int 0, .int y, .int (z + 1)], ?_, (fmod_rng _ b0).1, (fmod_rng _ b0).2, 0, y, z + 1, rfl, by omega, by omega, by omega, hy⟩
    have k1 : ∀ i : Int, Kc.d (.int i) = .int i := fun _ => rfl
    refine run_ret (δ := [some (.list [.int 0, .int y, .int (z + 1)]), some (.int b), none, some (.int (((y + 48271 * (z + 1)) * (39373 + (z + 1))).fmod 2147483647)), some (.int ((((y + 48271 * (z + 1)) * (39373 + (z + 1))).fmod 2147483647).fmod 40009 + 7)), some (.int (((((y + 48271 * (z + 1)) * (39373 + (z + 1))).fmod 2147483647 + (z + 1) + y.fdiv 1000003) * ((((y + 48271 * (z + 1)) * (39373 + (z + 1))).fmod 2147483647).fmod 40009 + 7)).fmod 2147483629))]) rfl ?_
    refine S.cons (S.ife (k := false) (E.tV (E.cmp (E.sub (E.var rfl) E.con rfl) E.con rfl) rfl) (by rw [if_neg (by decide)]; exact S.nil)) ?_
    refine S.cons (S.setIx (E.bin (E.sub (E.var rfl) E.con rfl) E.con rfl) rfl E.con rfl) ?_
    have m1 : mulOk 48271 (z + 1) = true := mulOk_l (by decide) (by decide)
    refine S.cons (S.asg (E.bin (E.bi (E.cons (E.bin (E.bin (E.sub (E.var rfl) E.con rfl) (E.bin E.con (E.sub (E.var rfl) E.con rfl) (bmul m1)) rfl) (E.bin E.con (E.sub (E.var rfl) E.con rfl) rfl) (bmul (mulOk_r (by omega) (by omega)))) E.nil) rfl) E.con (bmod (by decide))) rfl) ?_
    refine S.cons (S.asg (E.bin (E.bin (E.bi (E.cons (E.var rfl) E.nil) rfl) E.con (bmod (by decide))) E.con rfl) rfl) ?_
    refine S.cons (S.asg (E.bin (E.bi (E.cons (E.bin (E.bin (E.bin (E.var rfl) (E.sub (E.var rfl) E.con rfl) rfl) (E.bin (E.sub (E.var rfl) E.con rfl) E.con (bdiv (by decide) (by decide))) rfl) (E.var rfl) (bmul (mulOk_r (by omega) (by omega)))) E.nil) rfl) E.con (bmod (by decide))) rfl) ?_
    exact S.consR (S.ret (E.bin (E.bi (E.cons (E.bin (E.bin (E.bi (E.cons (E.bin (E.bin (E.var rfl) E.con (bmul (mulOk_r (by decide) (by decide)))) (E.var rfl) rfl) E.nil) rfl) E.con (bmod (by decide))) E.con (bdiv (by decide) (by decide))) E.nil) rfl) (E.var rfl) (bmod b0)))
end Gn

/-! Lw, part B: cells, the box, a drawn one, drawn ones. -/
namespace Gn
open PySem

def fBox : FnD := ⟨2, 3, (.cons (.asg (.name 2) (.ite (.val (.cmp .lt (.var 1) (.bi .len (.cons (.var 0) .nil)))) (.sub (.var 0) (.var 1)) (.con (.int 0)))) (.cons (.ret (.lst (.cons (.bin .mul (.bi .abs (.cons (.var 2) .nil)) (.bi .int (.cons (.cmp .ge (.bi .abs (.cons (.var 2) .nil)) (.bin .pow (.con (.int 10)) (.con (.int 18)))) .nil))) (.cons (.bin .add (.bin .add (.bin .mod (.bi .int (.cons (.var 2) .nil)) (.con (.int 2305843009213693951))) (.bin .mul (.con (.int 39373)) (.var 1))) (.con (.int 31313))) (.cons (.con (.int 0)) .nil))))) .nil))⟩
def fCells : FnD := ⟨2, 6, (.cons (.asg (.name 2) (.or (.bi .list (.cons (.slc (.var 0) .none (.some (.var 1))) .nil)) (.lst (.cons (.con (.int 0)) .nil)))) (.cons (.for (.cons (.name 3) (.cons (.name 4) .nil)) (.enum (.slc (.var 0) (.some (.var 1)) (.some (.con (.int 63))))) (.cons (.asg (.name 5) (.bin .mod (.bi .int (.cons (.var 3) .nil)) (.var 1))) (.cons (.setIx 2 (.var 5) (.bin .add (.sub (.var 2) (.var 5)) (.bin .mul (.var 4) (.bin .add (.var 3) (.con (.int 2)))))) .nil))) (.cons (.ret (.var 2)) .nil)))⟩
def fOf (i : Nat) : FnD := ⟨2, 2, (.cons (.ret (.sub (.var 1) (.call i [true, false] (.cons (.var 0) (.cons (.bi .len (.cons (.var 1) .nil)) .nil))))) .nil)⟩
def fPick (i : Nat) : FnD := ⟨3, 6, (.cons (.par [(.name 3), (.name 4)] (.cons (.bi .list (.cons (.var 1) .nil)) (.cons (.lst .nil) .nil))) (.cons (.for (.name 5) (.rng1 (.bi .min2 (.cons (.bi .int (.cons (.var 2) .nil)) (.cons (.bi .len (.cons (.var 3) .nil)) .nil)))) (.cons (.expr (.app 4 (.pop 3 (.some (.call i [true, false] (.cons (.var 0) (.cons (.bi .len (.cons (.var 3) .nil)) .nil))))))) .nil)) (.cons (.ret (.var 4)) .nil)))⟩
section
variable {ψ : DFns}
theorem kci (i : Int) : Kc.d (.int i) = .int i := rfl
theorem box_ok (v : Int) : ∃ t, drun ψ fBox [.list [.int v], .int 0] = .ok t [some (.list [.int v]), some (.int 0)] ∧ Box 0 t := by
  have f := fmod_rng v (b := 2305843009213693951) (by decide)
  by_cases h : (if v < 0 then -v else v) ≥ 10 ^ 18
  · refine ⟨.list [.int ((if v < 0 then -v else v) * 1), .int (v.fmod 2305843009213693951 + 39373 * 0 + 31313), .int 0], ?_, _, _, 0, rfl, ?_, by omega, by omega, by omega⟩
    · refine run_ret (δ := [some (.list [.int v]), some (.int 0), some (.int v)]) rfl ?_
      refine S.cons (S.asg (E.ite (k := true) (E.tV (E.cmp (E.var rfl) (E.bi (E.cons (E.var rfl) E.nil) rfl) rfl) rfl) (by rw [if_pos rfl]; exact E.sub (E.var rfl) (E.var rfl) rfl)) rfl) ?_
      refine S.consR (S.ret (E.lst (E.cons (E.bin (E.bi (E.cons (E.var rfl) E.nil) rfl) (E.bi (E.cons (E.cmp (k := true) (E.bi (E.cons (E.var rfl) E.nil) rfl) (E.bin E.con E.con rfl) ?_) E.nil) rfl) (bmul (mulOk_r (by decide) (by decide)))) (E.cons (E.bin (E.bin (E.bin (E.bi (E.cons (E.var rfl) E.nil) rfl) E.con (bmod (by decide))) (E.bin E.con (E.var rfl) rfl) rfl) E.con rfl) (E.cons E.con E.nil)))))
      show some (decide ((10 : Int) ^ 18 ≤ (if v < 0 then -v else v))) = some true
      rw [decide_eq_true h]
    · split <;> omega
  · refine ⟨.list [.int ((if v < 0 then -v else v) * 0), .int (v.fmod 2305843009213693951 + 39373 * 0 + 31313), .int 0], ?_, _, _, 0, rfl, by omega, by omega, by omega, by omega⟩
    refine run_ret (δ := [some (.list [.int v]), some (.int 0), some (.int v)]) rfl ?_
    refine S.cons (S.asg (E.ite (k := true) (E.tV (E.cmp (E.var rfl) (E.bi (E.cons (E.var rfl) E.nil) rfl) rfl) rfl) (by rw [if_pos rfl]; exact E.sub (E.var rfl) (E.var rfl) rfl)) rfl) ?_
    refine S.consR (S.ret (E.lst (E.cons (E.bin (E.bi (E.cons (E.var rfl) E.nil) rfl) (E.bi (E.cons (E.cmp (k := false) (E.bi (E.cons (E.var rfl) E.nil) rfl) (E.bin E.con E.con rfl) ?_) E.nil) rfl) (bmul (mulOk_r (by decide) (by decide)))) (E.cons (E.bin (E.bin (E.bin (E.bi (E.cons (E.var rfl) E.nil) rfl) E.con (bmod (by decide))) (E.bin E.con (E.var rfl) rfl) rfl) E.con rfl) (E.cons E.con E.nil)))))
    show some (decide ((10 : Int) ^ 18 ≤ (if v < 0 then -v else v))) = some false
    rw [decide_eq_false h]
theorem enumD_at : ∀ {xs : List PD} {k : Nat} {pre post : List PD} {d : PD}, enumD xs k = pre ++ d :: post → ∃ x, x ∈ xs ∧ d = .tuple [.int (k + pre.length : Nat), x] ∧ pre.length < xs.length
  | [], k, pre, post, d, h => by cases pre <;> cases h
  | x :: xs, k, [], post, d, h => by
    simp only [enumD, List.nil_append, List.cons.injEq] at h
    exact ⟨x, List.mem_cons_self .., by rw [← h.1]; rfl, Nat.zero_lt_succ _⟩
  | x :: xs, k, p :: pre, post, d, h => by
    simp only [enumD, List.cons_append, List.cons.injEq] at h
    obtain ⟨y, h1, h2, h3⟩ := enumD_at h.2
    refine ⟨y, List.mem_cons_of_mem _ h1, ?_, Nat.succ_lt_succ h3⟩
    rw [h2, List.length_cons]
    congr 3
    omega
theorem cells_ok (ns : List Int) (hn : ns.length ≤ 63) : ∃ v : Int, drun ψ fCells [.list (ns.map .int), .int 1] = .ok (.list [.int v]) [some (.list (ns.map .int)), some (.int 1)] := by
  have first : ∃ u : Int, dxs ψ fCells.body [some (.list (ns.map .int)), some (.int 1), none, none, none, none] = ((dx ψ (.for (.cons (.name 3) (.cons (.name 4) .nil)) (.enum (.slc (.var 0) (.some (.var 1)) (.some (.con (.int 63))))) (.cons (.asg (.name 5) (.bin .mod (.bi .int (.cons (.var 3) .nil)) (.var 1))) (.cons (.setIx 2 (.var 5) (.bin .add (.sub (.var 2) (.var 5)) (.bin .mul (.var 4) (.bin .add (.var 3) (.con (.int 2)))))) .nil)))).bind (dseq (dxs ψ (.cons (.ret (.var 2)) .nil)))) [some (.list (ns.map .int)), some (.int 1), some (.list [.int u]), none, none, none] := by
    cases ns with
    | nil =>
      refine ⟨0, S.cons (S.asg (d := .list [.int 0]) (δ1 := [some (.list (([] : List Int).map .int)), some (.int 1), none, none, none, none]) (E.or (k := false) (E.bi (E.cons (E.slc (E.var rfl) E.oN (E.oS (E.var rfl)) rfl) E.nil) rfl) rfl ?_) rfl) rfl⟩
      rw [if_neg Bool.false_ne_true]
      exact E.lst (E.cons E.con E.nil)
    | cons n ns =>
      have e : HT.sIx (List.map PyData.int (n :: ns)).length (List.map PyData.int (n :: ns)).length (some 1) = 1 := by
        refine (HT.sIx_nat _ _ 1).trans ?_
        rw [List.length_map, List.length_cons]
        omega
      have e2 : cutD (List.map PyData.int (n :: ns)) none (some 1) = [.int n] := by
        unfold cutD
        rw [e]; rfl
      refine ⟨n, S.cons (S.asg (d := .list [.int n]) (δ1 := [some (.list ((n :: ns).map .int)), some (.int 1), none, none, none, none]) (E.or (k := true) (E.bi (r := .list [.int n]) (E.cons (E.slc (r := .list [.int n]) (E.var rfl) E.oN (E.oS (E.var rfl)) ?_) E.nil) rfl) rfl ?_) rfl) rfl⟩
      · show some (PyData.list (cutD _ _ _)) = _
        rw [e2]
      · rw [if_pos rfl]
  obtain ⟨u, first⟩ := first
  obtain ⟨δ', l1, l2⟩ := dfor_inv (t := .cons (.name 3) (.cons (.name 4) .nil)) (b := dxs ψ (.cons (.asg (.name 5) (.bin .mod (.bi .int (.cons (.var 3) .nil)) (.var 1))) (.cons (.setIx 2 (.var 5) (.bin .add (.sub (.var 2) (.var 5)) (.bin .mul (.var 4) (.bin .add (.var 3) (.con (.int 2)))))) .nil)))
    (fun _ δ => ∃ (v : Int) (x y z : Option PD), δ = [some (.list (ns.map .int)), some (.int 1), some (.list [.int v]), x, y, z]) (enumD (cutD (ns.map .int) (some 1) (some 63)) 0) [] [some (.list (ns.map .int)), some (.int 1), some (.list [.int u]), none, none, none] ⟨u, _, _, _, rfl⟩
    (fun pre d post δ e ⟨v, x, y, z, hδ⟩ => by
      rw [List.nil_append] at e
      obtain ⟨q, hq, rfl, hl⟩ := enumD_at e
      have hm : q ∈ ns.map PyData.int := List.mem_of_mem_drop (List.mem_of_mem_take hq)
      obtain ⟨m, _, rfl⟩ := List.mem_map.mp hm
      have hl : pre.length < 63 := by
        refine Nat.lt_of_lt_of_le hl (Nat.le_trans (List.length_take_le ..) ?_)
        refine Nat.le_trans (Nat.sub_le _ _) (Nat.le_trans (HT.sIx_le _ _ (Nat.le_refl _) _) ?_)
        rw [List.length_map]; exact hn
      subst hδ
      refine ⟨_, rfl, [some (.list (ns.map .int)), some (.int 1), some (.list [.int (v + m * (((0 + pre.length : Nat) : Int) + 2))]), some (.int (0 + pre.length : Nat)), some (.int m), some (.int 0)], .inl ?_, _, _, _, _, rfl⟩
      have e0 : (((0 + pre.length : Nat) : Int)).fmod 1 = 0 := by
        rw [Int.fmod_eq_emod_of_nonneg _ (by decide)]; omega
      refine S.cons (S.asg (E.bin (E.bi (E.cons (E.var rfl) E.nil) rfl) (E.var rfl) (by rw [bmod (by decide), e0])) rfl) ?_
      refine S.cons (S.setIx (E.bin (E.sub (E.var rfl) (E.var rfl) rfl) (E.bin (E.var rfl) (E.bin (E.var rfl) E.con rfl) (bmul (mulOk_r (by omega) (by omega)))) rfl) rfl (E.var rfl) rfl) S.nil)
  obtain ⟨v, x, y, z, rfl⟩ := l2
  refine ⟨v, run_ret (δ := [some (.list (ns.map .int)), some (.int 1), some (.list [.int v]), x, y, z]) rfl ?_⟩
  refine first.trans ?_
  have : dx ψ (.for (.cons (.name 3) (.cons (.name 4) .nil)) (.enum (.slc (.var 0) (.some (.var 1)) (.some (.con (.int 63))))) (.cons (.asg (.name 5) (.bin .mod (.bi .int (.cons (.var 3) .nil)) (.var 1))) (.cons (.setIx 2 (.var 5) (.bin .add (.sub (.var 2) (.var 5)) (.bin .mul (.var 4) (.bin .add (.var 3) (.con (.int 2)))))) .nil))) [some (.list (ns.map .int)), some (.int 1), some (.list [.int u]), none, none, none] = .ok .next [some (.list (ns.map .int)), some (.int 1), some (.list [.int v]), x, y, z] :=
    S.for (E.iE (E.slc (E.var rfl) (E.oS (E.var rfl)) (E.oS E.con) rfl)) l1
  rw [DM.bind_ap this]
  exact S.consR (S.ret (E.var rfl))
/-- def i of φ is the source's -/
def IsTake (φ : DFns) (i : Nat) : Prop := ∀ (n : Nat) (t : PD) (b : Int), n < 2 ^ 40 → Box n t → 0 < b → b < 1073741824 → ∃ d t', φ i [t, .int b] = .ok (.int d) [some t', some (.int b)] ∧ 0 ≤ d ∧ d < b ∧ Box (n + 1) t'
theorem Box.list {n : Nat} {t : PD} (h : Box n t) : ∃ xs, t = .list xs := by
  obtain ⟨a, b, c, rfl, _⟩ := h
  exact ⟨_, rfl⟩
theorem Box.mono {n m : Nat} {t : PD} (h : Box n t) (l : n ≤ m) : Box m t := by
  obtain ⟨a, b, c, rfl, h1, h2, h3, h4⟩ := h
  exact ⟨a, b, c, rfl, h1, h2, by omega, h4⟩
theorem ixN_nat {n : Nat} {d : Int} (h0 : 0 ≤ d) (h1 : d < n) : L2.ixN n d = some d.toNat := by
  unfold L2.ixN
  rw [if_pos h0, if_pos h1]
/-- one of some things -/
theorem of_ok {i : Nat} (hi : IsTake ψ i) {n : Nat} (hn : n < 2 ^ 40) {t g : PD} (hb : Box n t) {xs : List PD} (hg : g = .list xs ∨ g = .tuple xs) (h0 : 0 < xs.length) (h1 : xs.length < 1073741824) :
    ∃ d t', drun ψ (fOf i) [t, g] = .ok d [some t', some g] ∧ d ∈ xs ∧ Box (n + 1) t' := by
  obtain ⟨d, t', e, d0, d1, hb'⟩ := hi n t xs.length hn hb (by omega) (by omega)
  obtain ⟨ts, rfl⟩ := hb.list
  have lt : d.toNat < xs.length := by omega
  refine ⟨xs[d.toNat], t', ?_, List.getElem_mem lt, hb'⟩
  have q : L2.atI xs d = some xs[d.toNat] := by
    unfold L2.atI
    rw [ixN_nat d0 d1]
    exact List.getElem?_eq_getElem lt
  refine run_ret (δ := [some t', some g]) rfl (S.consR (S.ret (E.sub (E.var rfl) (E.call (E.aR rfl (E.aF (E.bi (E.cons (E.var rfl) E.nil) (r := .int xs.length) ?_) E.aN)) rfl e) ?_)))
  · rcases hg with rfl | rfl <;> rfl
  · rcases hg with rfl | rfl <;> exact q
theorem perm_erase {α : Type} {xs : List α} {j : Nat} (h : j < xs.length) : (xs[j] :: xs.eraseIdx j).Perm xs := by
  induction xs generalizing j with
  | nil => cases h
  | cons x xs ih =>
    cases j with
    | zero => exact .refl _
    | succ j =>
      simp only [List.getElem_cons_succ, List.eraseIdx_cons_succ]
      exact (List.Perm.swap ..).trans ((ih (by simpa using h)).cons x)
/-- some of some things -/
theorem pick_ok {i : Nat} (hi : IsTake ψ i) {n : Nat} {t g : PD} (hb : Box n t) {xs : List PD} (hg : g = .list xs ∨ g = .tuple xs) (h1 : xs.length ≤ SL) {c : Int} (hc : 0 ≤ c) (hn : n + xs.length < 2 ^ 40) :
    ∃ ys zs t', drun ψ (fPick i) [t, g, .int c] = .ok (.list ys) [some t', some g, some (.int c)] ∧ (ys ++ zs).Perm xs ∧ ys.length = min c.toNat xs.length ∧ Box (n + xs.length) t' := by
  have hm : (if (xs.length : Int) < c then (xs.length : Int) else c).toNat = min c.toNat xs.length := by
    split <;> omega
  have hr : rngOk 0 (if (xs.length : Int) < c then (xs.length : Int) else c) = true := by
    unfold rngOk
    simp only [Bool.and_eq_true, decide_eq_true_eq]
    have : SL < 2 ^ 62 := by decide
    refine ⟨⟨⟨⟨by omega, by omega⟩, ?_⟩, ?_⟩, ?_⟩ <;> split <;> omega
  have hlen : ∀ (lo : Int) (m : Nat), (rngD lo m).length = m := fun lo m => by
    induction m generalizing lo with
    | zero => rfl
    | succ m ih => simp only [rngD, List.length_cons, ih]
  obtain ⟨δ', l1, l2⟩ := dfor_inv (t := .name 5) (b := dxs ψ (.cons (.expr (.app 4 (.pop 3 (.some (.call i [true, false] (.cons (.var 0) (.cons (.bi .len (.cons (.var 3) .nil)) .nil))))))) .nil))
    (fun pre δ => ∃ (ys zs : List PD) (t' : PD) (x : Option PD), δ = [some t', some g, some (.int c), some (.list zs), some (.list ys), x] ∧ (ys ++ zs).Perm xs ∧ ys.length = pre.length ∧ Box (n + pre.length) t')
    (rngD 0 (if (xs.length : Int) < c then (xs.length : Int) else c).toNat) [] [some t, some g, some (.int c), some (.list xs), some (.list []), none] ⟨[], xs, t, none, rfl, .refl _, rfl, hb⟩
    (fun pre d post δ e ⟨ys, zs, t', x, hδ, hp, hy, hb'⟩ => by
      subst hδ
      have hl := congrArg List.length e
      simp only [List.nil_append, hlen, List.length_append, List.length_cons, hm] at hl
      have hlp := hp.length_eq
      rw [List.length_append] at hlp
      have hz : 0 < zs.length := by omega
      have hz' : zs.length ≤ SL := by omega
      have : SL < 2 ^ 30 := by decide
      obtain ⟨d2, t2, e2, d0, d1, hb2⟩ := hi (n + pre.length) t' zs.length (by omega) hb' (by omega) (by omega)
      obtain ⟨ts, rfl⟩ := hb'.list
      have lt : d2.toNat < zs.length := by omega
      refine ⟨_, rfl, [some t2, some g, some (.int c), some (.list (zs.eraseIdx d2.toNat)), some (.list (ys ++ [zs[d2.toNat]])), some d], .inl ?_, ys ++ [zs[d2.toNat]], zs.eraseIdx d2.toNat, t2, some d, rfl, ?_, ?_, ?_⟩
      · exact S.cons (S.expr (E.app rfl (E.pop rfl (E.oS (E.call (E.aR rfl (E.aF (E.bi (E.cons (E.var rfl) E.nil) rfl) E.aN)) rfl e2)) rfl (ixN_nat d0 d1) (List.getElem?_eq_getElem lt) hz') rfl (by omega))) S.nil
      · refine List.Perm.trans ?_ hp
        rw [List.append_assoc]
        exact List.Perm.append_left _ (perm_erase lt)
      · rw [List.length_append, List.length_append, hy]; rfl
      · rw [List.length_append]; exact hb2)
  obtain ⟨ys, zs, t', x, rfl, hp, hy, hb'⟩ := l2
  rw [List.nil_append, hlen, hm] at hy hb'
  refine ⟨ys, zs, t', ?_, hp, hy, hb'.mono (by omega)⟩
  refine run_ret (δ := [some t', some g, some (.int c), some (.list zs), some (.list ys), x]) rfl ?_
  refine S.cons (S.par (E.cons (E.bi (E.cons (E.var rfl) E.nil) (r := .list xs) ?_) (E.cons (E.lst E.nil) E.nil)) rfl) ?_
  · rcases hg with rfl | rfl <;> rfl
  refine S.cons (S.for (E.iR (E.bi (E.cons (E.bi (E.cons (E.var rfl) E.nil) rfl) (E.cons (E.bi (E.cons (E.var rfl) E.nil) rfl) E.nil)) rfl) hr) l1) ?_
  exact S.consR (S.ret (E.var rfl))
end
end Gn

/-! Lw, part C: the same at every depth; all as lists. -/
namespace Gn
open PySem

def fSame (i : Nat) : FnD := ⟨2, 4, (.cons (.ife (.val (.isi (.var 1) [.list, .tuple])) (.cons (.ife (.or (.val (.cmp .ne (.isi (.var 0) [.list]) (.isi (.var 1) [.list]))) (.val (.cmp .ne (.isi (.var 0) [.tuple]) (.isi (.var 1) [.tuple])))) (.cons (.ret (.con (.bool false))) .nil) .nil) (.cons (.ret (.and (.cmp .eq (.bi .len (.cons (.var 0) .nil)) (.bi .len (.cons (.var 1) .nil))) (.bi .all (.cons (.comp (.call i [] (.cons (.var 2) (.cons (.var 3) .nil))) [2, 3] (.cons (.name 2) (.cons (.name 3) .nil)) (.zip (.var 0) (.var 1)) .yes) .nil)))) .nil)) .nil) (.cons (.ife (.or (.val (.cmp .isN (.var 1) (.con .none))) (.val (.isi (.var 1) [.bool, .str]))) (.cons (.ret (.and (.cmp .eq (.var 0) (.var 1)) (.and (.cmp .eq (.isi (.var 0) [.bool]) (.isi (.var 1) [.bool])) (.cmp .eq (.cmp .isN (.var 0) (.con .none)) (.cmp .isN (.var 1) (.con .none)))))) .nil) .nil) (.cons (.ret (.and (.isi (.var 0) [.int]) (.and (.not (.isi (.var 0) [.bool])) (.cmp .eq (.var 0) (.var 1))))) .nil)))⟩
def fLists (i : Nat) : FnD := ⟨1, 2, (.cons (.ret (.ite (.val (.isi (.var 0) [.list, .tuple])) (.comp (.call i [] (.cons (.var 1) .nil)) [1] (.name 1) (.seq (.var 0)) .yes) (.var 0))) .nil)⟩
mutual
/-- it holds no dict -/
def plainD : PD → Bool
  | .list xs => plainL xs
  | .tuple xs => plainL xs
  | .dict _ => false
  | _ => true
def plainL : List PD → Bool
  | [] => true
  | x :: xs => plainD x && plainL xs
end
mutual
def listsD : PD → PD
  | .list xs => .list (listsL xs)
  | .tuple xs => .list (listsL xs)
  | d => d
def listsL : List PD → List PD
  | [] => []
  | x :: xs => listsD x :: listsL xs
end
theorem plainL_mem : ∀ {xs : List PD} {x : PD}, plainL xs = true → x ∈ xs → plainD x = true
  | x :: xs, y, h, hy => by
    obtain ⟨h1, h2⟩ := and2 h
    rcases List.mem_cons.mp hy with rfl | hy
    · exact h1
    · exact plainL_mem h2 hy
theorem depthAll_mem : ∀ {xs : List PD} {x : PD}, x ∈ xs → PyData.depth x ≤ PyData.depthAll xs
  | x :: xs, y, hy => by
    simp only [PyData.depthAll]
    rcases List.mem_cons.mp hy with rfl | hy
    · exact Nat.le_max_left ..
    · exact Nat.le_trans (depthAll_mem hy) (Nat.le_max_right ..)
theorem listsL_map : ∀ xs : List PD, listsL xs = xs.map listsD
  | [] => rfl
  | x :: xs => by simp only [listsL, List.map_cons, listsL_map xs]
/-- the pair's two -/
def pr2 : PD → Option PD × Option PD
  | .tuple [x, y] => (some x, some y)
  | _ => (none, none)
theorem zip_self_mem : ∀ {xs : List PD} {d : PD}, d ∈ zipD xs xs → ∃ x ∈ xs, d = .tuple [x, x]
  | x :: xs, d, h => by
    simp only [zipD, List.zipWith_cons_cons, List.mem_cons] at h
    rcases h with rfl | h
    · exact ⟨x, List.mem_cons_self .., rfl⟩
    · obtain ⟨y, h1, h2⟩ := zip_self_mem (xs := xs) h
      exact ⟨y, List.mem_cons_of_mem _ h1, h2⟩
theorem bools_all : ∀ {xs : List PD}, (∀ x ∈ xs, x = .bool true) → ∃ bs : List Bool, boolsD xs = some bs ∧ bs.all id = true
  | [], _ => ⟨[], rfl, rfl⟩
  | x :: xs, h => by
    obtain ⟨bs, h1, h2⟩ := bools_all (xs := xs) fun y hy => h y (List.mem_cons_of_mem _ hy)
    rw [h x (List.mem_cons_self ..)]
    refine ⟨true :: bs, ?_, ?_⟩
    · simp only [boolsD, h1, Option.map_some]
    · simp only [List.all_cons, h2, id, Bool.and_self]
theorem ceq_int (i j : Int) : cmpD .eq (.int i) (.int j) = some (i == j) := by
  have : cmpD .eq (.int i) (.int j) = some (PyData.eqv (.int i) (.int j)) := by rfl
  rw [this]
  simp only [PyData.eqv]
theorem ceq_str (i j : Str) : cmpD .eq (.str i) (.str j) = some (i == j) := by
  have : cmpD .eq (.str i) (.str j) = some (PyData.eqv (.str i) (.str j)) := by rfl
  rw [this]
  simp only [PyData.eqv]
section
variable {T : List FnD} {i : Nat}
theorem same_seq {k : Nat} {d : PD} {xs : List PD} (hd : d = .list xs ∨ d = .tuple xs) (h : ∀ x ∈ xs, dfn T k i [x, x] = .ok (.bool true) [some x, some x]) : drun (dfn T k) (fSame i) [d, d] = .ok (.bool true) [some d, some d] := by
  refine run_ret (δ := [some d, some d, none, none]) rfl (S.consR (S.ife (k := true) (E.tV (E.isi (E.var rfl)) (by rcases hd with rfl | rfl <;> rfl)) ?_))
  rw [if_pos rfl]
  refine S.cons (S.ife (k := false) (δ1 := [some d, some d, none, none]) (E.tO (k := false) (δ1 := [some d, some d, none, none]) (E.tV (E.cmp (E.isi (E.var rfl)) (E.isi (E.var rfl)) rfl) (by rcases hd with rfl | rfl <;> rfl)) ?_) (by rw [if_neg Bool.false_ne_true]; exact S.nil)) ?_
  · rw [if_neg Bool.false_ne_true]
    exact E.tV (E.cmp (E.isi (E.var rfl)) (E.isi (E.var rfl)) rfl) (by rcases hd with rfl | rfl <;> rfl)
  have lenE : vd (biD .len [d]) = some (.int xs.length) := by rcases hd with rfl | rfl <;> rfl
  refine S.consR (S.ret (E.and (k := true) (d := .bool true) (δ1 := [some d, some d, none, none]) (E.cmp (E.bi (E.cons (E.var rfl) E.nil) lenE) (E.bi (E.cons (E.var rfl) E.nil) lenE) ?_) rfl ?_))
  · rw [ceq_int, beq_self_eq_true]
  · rw [if_pos rfl]
    have hz : zipP d d = some (zipD xs xs) := by rcases hd with rfl | rfl <;> rfl
    have hc := comp_pure (own := [2, 3]) (tg := .cons (.name 2) (.cons (.name 3) .nil)) (c := dt (dfn T k) .yes) (el := de (dfn T k) (.call i [] (.cons (.var 2) (.cons (.var 3) .nil)))) (ds := zipD xs xs) (δ := [some d, some d, none, none]) (fun _ => true) (fun _ => .bool true)
      (fun z => [some d, some d, (pr2 z).1, (pr2 z).2]) (by decide) (fun z hz => by
        obtain ⟨x, _, rfl⟩ := zip_self_mem hz
        rfl) (fun _ _ => rfl) (fun _ _ => rfl) rfl (fun _ _ => rfl) (fun z hz _ => by
        obtain ⟨x, hx, rfl⟩ := zip_self_mem hz
        exact E.call (E.aV (E.var rfl) (E.aV (E.var rfl) E.aN)) rfl (h x hx))
    obtain ⟨bs, b1, b2⟩ := bools_all (xs := ((zipD xs xs).filter fun _ => true).map fun _ => .bool true) fun x hx => by
      obtain ⟨_, _, e⟩ := List.mem_map.mp hx
      exact e.symm
    refine E.bi (E.cons (E.comp (E.iZ (E.var rfl) (E.var rfl) hz) hc) E.nil) ?_
    simp only [biD, b1, Option.map_some, b2]
    rfl
theorem same_leaf {ψ : DFns} {d : PD} (hp : plainD d = true) (h0 : seqOf d = none) : drun ψ (fSame i) [d, d] = .ok (.bool true) [some d, some d] := by
  cases d with
  | list xs => cases h0
  | tuple xs => cases h0
  | dict _ => cases hp
  | none => rfl
  | bool b => cases b <;> rfl
  | int j =>
    refine run_ret (δ := [some (.int j), some (.int j), none, none]) rfl (S.cons (S.ife (k := false) (E.tV (E.isi (E.var rfl)) rfl) (by rw [if_neg Bool.false_ne_true]; exact S.nil)) (S.cons (S.ife (k := false) (E.tO (k := false) (E.tV (E.cmp (k := false) (E.var rfl) E.con rfl) rfl) (by rw [if_neg Bool.false_ne_true]; exact E.tV (E.isi (E.var rfl)) rfl)) (by rw [if_neg Bool.false_ne_true]; exact S.nil)) (S.consR (S.ret (E.and (k := true) (E.isi (E.var rfl)) rfl ?_)))))
    rw [if_pos rfl]
    refine E.and (k := true) (E.not (k := false) (E.isi (E.var rfl)) rfl) rfl ?_
    rw [if_pos rfl]
    refine E.cmp (E.var rfl) (E.var rfl) ?_
    rw [ceq_int, beq_self_eq_true]
  | str x =>
    refine run_ret (δ := [some (.str x), some (.str x), none, none]) rfl (S.cons (S.ife (k := false) (E.tV (E.isi (E.var rfl)) rfl) (by rw [if_neg Bool.false_ne_true]; exact S.nil)) (S.consR (S.ife (k := true) (E.tO (k := false) (E.tV (E.cmp (k := false) (E.var rfl) E.con rfl) rfl) (by rw [if_neg Bool.false_ne_true]; exact E.tV (E.isi (E.var rfl)) rfl)) ?_)))
    rw [if_pos rfl]
    refine S.consR (S.ret (E.and (k := true) (d := .bool true) (δ1 := [some (.str x), some (.str x), none, none]) (E.cmp (k := true) (E.var rfl) (E.var rfl) ?_) rfl ?_))
    · rw [ceq_str, beq_self_eq_true]
    · rw [if_pos rfl]
      exact E.and (k := true) (d := .bool true) (δ1 := [some (.str x), some (.str x), none, none]) (E.cmp (k := true) (E.isi (E.var rfl)) (E.isi (E.var rfl)) rfl) rfl (by
        rw [if_pos rfl]
        exact E.cmp (E.cmp (k := false) (E.var rfl) E.con rfl) (E.cmp (k := false) (E.var rfl) E.con rfl) rfl)
theorem same_ok (hT : T[i]? = some (fSame i)) (k : Nat) : ∀ (m : Nat) (d : PD), plainD d = true → d.depth ≤ m → dfn T (k + m + 1) i [d, d] = .ok (.bool true) [some d, some d] := by
  intro m
  induction m with
  | zero =>
    intro d hp hd
    refine dfn_run hT ?_
    cases d with
    | list xs => simp only [PyData.depth] at hd; omega
    | tuple xs => simp only [PyData.depth] at hd; omega
    | _ => exact same_leaf hp rfl
  | succ m ih =>
    intro d hp hd
    cases d with
    | list xs =>
      simp only [PyData.depth] at hd
      exact dfn_run hT (same_seq (.inl rfl) fun x hx => ih x (plainL_mem hp hx) (Nat.le_trans (depthAll_mem hx) (by omega)))
    | tuple xs =>
      simp only [PyData.depth] at hd
      exact dfn_run hT (same_seq (.inr rfl) fun x hx => ih x (plainL_mem hp hx) (Nat.le_trans (depthAll_mem hx) (by omega)))
    | _ => exact dfn_run hT (same_leaf hp rfl)
theorem lists_seq {k : Nat} {d : PD} {xs : List PD} (hd : d = .list xs ∨ d = .tuple xs) (h : ∀ x ∈ xs, dfn T k i [x] = .ok (listsD x) [some x]) : drun (dfn T k) (fLists i) [d] = .ok (listsD d) [some d] := by
  refine run_ret (δ := [some d, none]) rfl (S.consR (S.ret (E.ite (k := true) (E.tV (E.isi (E.var rfl)) (by rcases hd with rfl | rfl <;> rfl)) ?_)))
  rw [if_pos rfl]
  have hz : seqOf d = some xs := by rcases hd with rfl | rfl <;> rfl
  have hc := comp_pure (own := [1]) (tg := .name 1) (c := dt (dfn T k) .yes) (el := de (dfn T k) (.call i [] (.cons (.var 1) .nil))) (ds := xs) (δ := [some d, none]) (fun _ => true) listsD
    (fun z => [some d, some z]) (by decide) (fun _ _ => rfl) (fun _ _ => rfl) (fun _ _ => rfl) rfl (fun _ _ => rfl) (fun z hz _ => E.call (E.aV (E.var rfl) E.aN) rfl (h z hz))
  refine E.comp (E.iS (E.var rfl) hz) (hc.trans ?_)
  have : (xs.filter fun _ => true) = xs := List.filter_eq_self.mpr fun _ _ => rfl
  rw [this, ← listsL_map]
  rcases hd with rfl | rfl <;> rfl
theorem lists_ok (hT : T[i]? = some (fLists i)) (k : Nat) : ∀ (m : Nat) (d : PD), plainD d = true → d.depth ≤ m → dfn T (k + m + 1) i [d] = .ok (listsD d) [some d] := by
  intro m
  induction m with
  | zero =>
    intro d hp hd
    refine dfn_run hT ?_
    cases d with
    | list xs => simp only [PyData.depth] at hd; omega
    | tuple xs => simp only [PyData.depth] at hd; omega
    | dict _ => cases hp
    | _ => rfl
  | succ m ih =>
    intro d hp hd
    cases d with
    | list xs =>
      simp only [PyData.depth] at hd
      exact dfn_run hT (lists_seq (.inl rfl) fun x hx => ih x (plainL_mem hp hx) (Nat.le_trans (depthAll_mem hx) (by omega)))
    | tuple xs =>
      simp only [PyData.depth] at hd
      exact dfn_run hT (lists_seq (.inr rfl) fun x hx => ih x (plainL_mem hp hx) (Nat.le_trans (depthAll_mem hx) (by omega)))
    | dict _ => cases hp
    | _ => exact dfn_run hT (by rfl)
end
end Gn

namespace K32
open Gn
abbrev P : PySem.Program := PySem.Challenge.pw_sendershade_k32_sets_of_friends_lots_and
/-- 0 is_number: thing -/
def f_is_number : FnD := ⟨1, 1, (.cons (.ret (.and (.isi (.var 0) [.int]) (.not (.isi (.var 0) [.bool])))) .nil)⟩
/-- 1 is_count: thing -/
def f_is_count : FnD := ⟨1, 1, (.cons (.ret (.and (.call 0 [] (.cons (.var 0) .nil)) (.cmp .ge (.var 0) (.con (.int 0))))) .nil)⟩
/-- 2 is_below: thing many -/
def f_is_below : FnD := ⟨2, 2, (.cons (.ret (.and (.call 1 [] (.cons (.var 0) .nil)) (.cmp .lt (.var 0) (.var 1)))) .nil)⟩
/-- 3 ascends: thing near far -/
def f_ascends : FnD := ⟨1, 3, (.cons (.ret (.bi .all (.cons (.comp (.cmp .lt (.var 1) (.var 2)) [1, 2] (.cons (.name 1) (.cons (.name 2) .nil)) (.zip (.var 0) (.slc (.var 0) (.some (.con (.int 1))) .none)) .yes) .nil))) .nil)⟩
/-- 4 is_number_set: thing many part -/
def f_is_number_set : FnD := ⟨2, 3, (.cons (.ife (.or (.not (.val (.isi (.var 0) [.tuple]))) (.not (.val (.bi .all (.cons (.comp (.call 2 [] (.cons (.var 2) (.cons (.var 1) .nil))) [2] (.name 2) (.seq (.var 0)) .yes) .nil))))) (.cons (.ret (.con (.bool false))) .nil) .nil) (.cons (.ret (.call 3 [] (.cons (.var 0) .nil))) .nil))⟩
/-- 5 suspects_of: people sets person own -/
def f_suspects_of : FnD := ⟨2, 4, (.cons (.ret (.bi .tuple (.cons (.comp (.var 2) [2] (.name 2) (.rng1 (.var 0)) (.val (.bi .all (.cons (.comp (.cmp .isin (.var 2) (.var 3)) [3] (.name 3) (.seq (.var 1)) .yes) .nil)))) .nil))) .nil)⟩
/-- 6 meets_all: lot sets person own -/
def f_meets_all : FnD := ⟨2, 4, (.cons (.ret (.bi .all (.cons (.comp (.bi .any (.cons (.comp (.cmp .isin (.var 2) (.var 3)) [2] (.name 2) (.seq (.var 0)) .yes) .nil)) [3] (.name 3) (.seq (.var 1)) .yes) .nil))) .nil)⟩
/-- 7 lots_within: people sets many found person own -/
def f_lots_within : FnD := ⟨3, 6, (.cons (.asg (.name 3) (.lst (.cons (.tup .nil) .nil))) (.cons (.for (.name 4) (.rng1 (.var 0)) (.cons (.asg (.name 3) (.bin .add (.var 3) (.comp (.bin .add (.var 5) (.tup (.cons (.var 4) .nil))) [5] (.name 5) (.seq (.var 3)) .yes))) .nil)) (.cons (.ret (.bi .sorted (.cons (.comp (.var 5) [5] (.name 5) (.seq (.var 3)) (.and (.val (.cmp .le (.bi .len (.cons (.var 5) .nil)) (.var 2))) (.val (.call 6 [] (.cons (.var 5) (.cons (.var 1) .nil)))))) .nil))) .nil)))⟩
/-- 8 friend_lots: people sets many found lot less place own -/
def f_friend_lots : FnD := ⟨3, 8, (.cons (.asg (.name 3) (.lst .nil)) (.cons (.for (.name 4) (.seq (.call 7 [] (.cons (.var 0) (.cons (.var 1) (.cons (.var 2) .nil))))) (.cons (.asg (.name 5) (.comp (.bin .add (.slc (.var 4) .none (.some (.var 6))) (.slc (.var 4) (.some (.bin .add (.var 6) (.con (.int 1)))) .none)) [6] (.name 6) (.rng1 (.bi .len (.cons (.var 4) .nil))) .yes)) (.cons (.ife (.not (.val (.bi .any (.cons (.comp (.call 6 [] (.cons (.var 7) (.cons (.var 1) .nil))) [7] (.name 7) (.seq (.var 5)) .yes) .nil)))) (.cons (.expr (.app 3 (.var 4))) .nil) .nil) .nil))) (.cons (.ret (.var 3)) .nil)))⟩
/-- 9 sure_of: people sets many lots -/
def f_sure_of : FnD := ⟨3, 4, (.cons (.asg (.name 3) (.call 7 [] (.cons (.var 0) (.cons (.var 1) (.cons (.var 2) .nil))))) (.cons (.ife (.val (.cmp .eq (.var 3) (.lst .nil))) (.cons (.rais 1) .nil) .nil) (.cons (.ret (.call 5 [] (.cons (.var 0) (.cons (.var 3) .nil)))) .nil)))⟩
/-- 10 is_only: people sets many thing -/
def f_is_only : FnD := ⟨4, 4, (.cons (.ret (.and (.call 4 [] (.cons (.var 3) (.cons (.var 0) .nil))) (.cmp .eq (.call 7 [] (.cons (.var 0) (.cons (.var 1) (.cons (.var 2) .nil)))) (.lst (.cons (.var 3) .nil))))) .nil)⟩
/-- 11 least_rounds: people each -/
def f_least_rounds : FnD := ⟨2, 2, (.cons (.ife (.val (.cmp .gt (.var 1) (.var 0))) (.cons (.rais 0) .nil) .nil) (.cons (.ife (.val (.cmp .eq (.var 0) (.con (.int 1)))) (.cons (.ret (.con (.int 0))) .nil) .nil) (.cons (.ife (.val (.cmp .eq (.var 1) (.var 0))) (.cons (.rais 1) .nil) .nil) (.cons (.ret (.bin .fdiv (.bin .sub (.bin .sub (.bin .add (.bin .sub (.var 0) (.con (.int 1))) (.var 0)) (.var 1)) (.con (.int 1))) (.bin .sub (.var 0) (.var 1)))) .nil))))⟩
/-- 12 quick_sets: people friend each found out others person lap gone -/
def f_quick_sets : FnD := ⟨3, 9, (.cons (.par [(.name 3), (.name 4)] (.cons (.lst .nil) (.cons (.bin .sub (.var 0) (.var 2)) .nil))) (.cons (.asg (.name 5) (.comp (.var 6) [6] (.name 6) (.rng1 (.var 0)) (.val (.cmp .ne (.var 6) (.var 1))))) (.cons (.for (.name 7) (.rng1 (.call 11 [] (.cons (.var 0) (.cons (.var 2) .nil)))) (.cons (.asg (.name 8) (.slc (.bin .add (.slc (.var 5) (.some (.bin .mul (.var 7) (.var 4))) .none) (.var 5)) .none (.some (.var 4)))) (.cons (.expr (.app 3 (.bi .tuple (.cons (.comp (.var 6) [6] (.name 6) (.rng1 (.var 0)) (.val (.cmp .notin (.var 6) (.var 8)))) .nil)))) .nil))) (.cons (.ret (.bi .tuple (.cons (.var 3) .nil))) .nil))))⟩
/-- 13 is_quick: people friend each thing own -/
def f_is_quick : FnD := ⟨4, 5, (.cons (.ife (.or (.not (.val (.isi (.var 3) [.tuple]))) (.not (.val (.bi .all (.cons (.comp (.and (.call 4 [] (.cons (.var 4) (.cons (.var 0) .nil))) (.cmp .eq (.bi .len (.cons (.var 4) .nil)) (.var 2))) [4] (.name 4) (.seq (.var 3)) .yes) .nil))))) (.cons (.ret (.con (.bool false))) .nil) .nil) (.cons (.ret (.cmp .eq (.call 5 [] (.cons (.var 0) (.cons (.var 3) .nil))) (.tup (.cons (.var 1) .nil)))) .nil))⟩
/-- 14 _law_box: script k cell -/
def f__law_box : FnD := ⟨2, 3, (.cons (.asg (.name 2) (.ite (.val (.cmp .lt (.var 1) (.bi .len (.cons (.var 0) .nil)))) (.sub (.var 0) (.var 1)) (.con (.int 0)))) (.cons (.ret (.lst (.cons (.bin .mul (.bi .abs (.cons (.var 2) .nil)) (.bi .int (.cons (.cmp .ge (.bi .abs (.cons (.var 2) .nil)) (.bin .pow (.con (.int 10)) (.con (.int 18)))) .nil))) (.cons (.bin .add (.bin .add (.bin .mod (.bi .int (.cons (.var 2) .nil)) (.con (.int 2305843009213693951))) (.bin .mul (.con (.int 39373)) (.var 1))) (.con (.int 31313))) (.cons (.con (.int 0)) .nil))))) .nil))⟩
/-- 15 _law_take: tin below_so drawn once_so wide_so twice_so -/
def f__law_take : FnD := ⟨2, 6, (.cons (.ife (.val (.cmp .gt (.sub (.var 0) (.con (.int 0))) (.con (.int 0)))) (.cons (.asg (.name 2) (.bin .mod (.bi .int (.cons (.sub (.var 0) (.con (.int 0))) .nil)) (.var 1))) (.cons (.setIx 0 (.con (.int 0)) (.bin .fdiv (.sub (.var 0) (.con (.int 0))) (.var 1))) (.cons (.ret (.var 2)) .nil))) .nil) (.cons (.setIx 0 (.con (.int 2)) (.bin .add (.sub (.var 0) (.con (.int 2))) (.con (.int 1)))) (.cons (.asg (.name 3) (.bin .mod (.bi .int (.cons (.bin .mul (.bin .add (.sub (.var 0) (.con (.int 1))) (.bin .mul (.con (.int 48271)) (.sub (.var 0) (.con (.int 2))))) (.bin .add (.con (.int 39373)) (.sub (.var 0) (.con (.int 2))))) .nil)) (.con (.int 2147483647)))) (.cons (.asg (.name 4) (.bin .add (.bin .mod (.bi .int (.cons (.var 3) .nil)) (.con (.int 40009))) (.con (.int 7)))) (.cons (.asg (.name 5) (.bin .mod (.bi .int (.cons (.bin .mul (.bin .add (.bin .add (.var 3) (.sub (.var 0) (.con (.int 2)))) (.bin .fdiv (.sub (.var 0) (.con (.int 1))) (.con (.int 1000003)))) (.var 4)) .nil)) (.con (.int 2147483629)))) (.cons (.ret (.bin .mod (.bi .int (.cons (.bin .fdiv (.bin .mod (.bi .int (.cons (.bin .add (.bin .mul (.var 5) (.con (.int 48271))) (.var 3)) .nil)) (.con (.int 2147483587))) (.con (.int 64))) .nil)) (.var 1))) .nil))))))⟩
/-- 16 _law_cells: script most_so cells_so k cell_so at_so -/
def f__law_cells : FnD := ⟨2, 6, (.cons (.asg (.name 2) (.or (.bi .list (.cons (.slc (.var 0) .none (.some (.var 1))) .nil)) (.lst (.cons (.con (.int 0)) .nil)))) (.cons (.for (.cons (.name 3) (.cons (.name 4) .nil)) (.enum (.slc (.var 0) (.some (.var 1)) (.some (.con (.int 63))))) (.cons (.asg (.name 5) (.bin .mod (.bi .int (.cons (.var 3) .nil)) (.var 1))) (.cons (.setIx 2 (.var 5) (.bin .add (.sub (.var 2) (.var 5)) (.bin .mul (.var 4) (.bin .add (.var 3) (.con (.int 2)))))) .nil))) (.cons (.ret (.var 2)) .nil)))⟩
/-- 17 _law_of: tin goods_so -/
def f__law_of : FnD := ⟨2, 2, (.cons (.ret (.sub (.var 1) (.call 15 [true, false] (.cons (.var 0) (.cons (.bi .len (.cons (.var 1) .nil)) .nil))))) .nil)⟩
/-- 18 _law_pick: tin goods_so count_so pool_so found lap -/
def f__law_pick : FnD := ⟨3, 6, (.cons (.par [(.name 3), (.name 4)] (.cons (.bi .list (.cons (.var 1) .nil)) (.cons (.lst .nil) .nil))) (.cons (.for (.name 5) (.rng1 (.bi .min2 (.cons (.bi .int (.cons (.var 2) .nil)) (.cons (.bi .len (.cons (.var 3) .nil)) .nil)))) (.cons (.expr (.app 4 (.pop 3 (.some (.call 15 [true, false] (.cons (.var 0) (.cons (.bi .len (.cons (.var 3) .nil)) .nil))))))) .nil)) (.cons (.ret (.var 4)) .nil)))⟩
/-- 19 _law_same: got due mine its -/
def f__law_same : FnD := ⟨2, 4, (.cons (.ife (.val (.isi (.var 1) [.list, .tuple])) (.cons (.ife (.or (.val (.cmp .ne (.isi (.var 0) [.list]) (.isi (.var 1) [.list]))) (.val (.cmp .ne (.isi (.var 0) [.tuple]) (.isi (.var 1) [.tuple])))) (.cons (.ret (.con (.bool false))) .nil) .nil) (.cons (.ret (.and (.cmp .eq (.bi .len (.cons (.var 0) .nil)) (.bi .len (.cons (.var 1) .nil))) (.bi .all (.cons (.comp (.call 19 [] (.cons (.var 2) (.cons (.var 3) .nil))) [2, 3] (.cons (.name 2) (.cons (.name 3) .nil)) (.zip (.var 0) (.var 1)) .yes) .nil)))) .nil)) .nil) (.cons (.ife (.or (.val (.cmp .isN (.var 1) (.con .none))) (.val (.isi (.var 1) [.bool, .str]))) (.cons (.ret (.and (.cmp .eq (.var 0) (.var 1)) (.and (.cmp .eq (.isi (.var 0) [.bool]) (.isi (.var 1) [.bool])) (.cmp .eq (.cmp .isN (.var 0) (.con .none)) (.cmp .isN (.var 1) (.con .none)))))) .nil) .nil) (.cons (.ret (.and (.isi (.var 0) [.int]) (.and (.not (.isi (.var 0) [.bool])) (.cmp .eq (.var 0) (.var 1))))) .nil)))⟩
/-- 20 _law_lists: matter bit -/
def f__law_lists : FnD := ⟨1, 2, (.cons (.ret (.ite (.val (.isi (.var 0) [.list, .tuple])) (.comp (.call 20 [] (.cons (.var 1) .nil)) [1] (.name 1) (.seq (.var 0)) .yes) (.var 0))) .nil)⟩
/-- 21 _law_heard: door its slip -/
def f__law_heard : FnD := ⟨2, 3, (.cons (.try (.cons (.ife (.val (.cmp .eq (.var 0) (.con (.int 0)))) (.cons (.ret (.lst (.cons (.con (.str (PySem.Str.ofString "told"))) (.cons (.call 9 [] (.cons (.sub (.var 1) (.con (.int 0))) (.cons (.sub (.var 1) (.con (.int 1))) (.cons (.sub (.var 1) (.con (.int 2))) .nil)))) .nil)))) .nil) .nil) (.cons (.ret (.ite (.val (.cmp .eq (.var 0) (.con (.int 1)))) (.lst (.cons (.con (.str (PySem.Str.ofString "told"))) (.cons (.call 11 [] (.cons (.sub (.var 1) (.con (.int 0))) (.cons (.sub (.var 1) (.con (.int 1))) .nil))) .nil))) (.lst (.cons (.con (.str (PySem.Str.ofString "told"))) (.cons (.call 12 [] (.cons (.sub (.var 1) (.con (.int 0))) (.cons (.sub (.var 1) (.con (.int 1))) (.cons (.sub (.var 1) (.con (.int 2))) .nil)))) .nil))))) .nil)) [(1, (.lst [(.str (PySem.Str.ofString "NoPaper")), (.bool false)])), (0, (.lst [(.str (PySem.Str.ofString "Unfit")), (.bool false)]))]) .nil)⟩
/-- 22 _law_subsets: many found person own -/
def f__law_subsets : FnD := ⟨1, 4, (.cons (.asg (.name 1) (.lst (.cons (.tup .nil) .nil))) (.cons (.for (.name 2) (.rng1 (.var 0)) (.cons (.asg (.name 1) (.bin .add (.var 1) (.comp (.bin .add (.var 3) (.tup (.cons (.var 2) .nil))) [3] (.name 3) (.seq (.var 1)) .yes))) .nil)) (.cons (.ret (.bi .sorted (.cons (.var 1) .nil))) .nil)))⟩
/-- 23 _law_meets: lot sets own person -/
def f__law_meets : FnD := ⟨2, 4, (.cons (.ret (.cmp .eq (.comp (.var 2) [2] (.name 2) (.seq (.var 1)) (.val (.cmp .eq (.comp (.var 3) [3] (.name 3) (.seq (.var 2)) (.val (.cmp .isin (.var 3) (.var 0)))) (.lst .nil)))) (.lst .nil))) .nil)⟩
/-- 24 _law_common: people sets person own -/
def f__law_common : FnD := ⟨2, 4, (.cons (.ret (.comp (.var 2) [2] (.name 2) (.rng1 (.var 0)) (.val (.cmp .eq (.comp (.var 3) [3] (.name 3) (.seq (.var 1)) (.val (.cmp .notin (.var 2) (.var 3)))) (.lst .nil))))) .nil)⟩
/-- 25 _law_rounds: people each left rounds lap -/
def f__law_rounds : FnD := ⟨2, 5, (.cons (.ife (.val (.cmp .eq (.var 0) (.con (.int 1)))) (.cons (.ret (.con (.int 0))) .nil) .nil) (.cons (.par [(.name 2), (.name 3)] (.cons (.var 0) (.cons (.con (.int 0)) .nil))) (.cons (.for (.name 4) (.rng1 (.con (.int 40))) (.cons (.ife (.val (.cmp .eq (.var 2) (.con (.int 1)))) (.cons .brk .nil) .nil) (.cons (.par [(.name 2), (.name 3)] (.cons (.bi .max2 (.cons (.con (.int 1)) (.cons (.bin .sub (.var 2) (.bin .sub (.var 0) (.var 1))) .nil))) (.cons (.bin .add (.var 3) (.con (.int 1))) .nil))) .nil))) (.cons (.ret (.var 3)) .nil))))⟩
/-- 26 _law_quick_right: tin people each due friend told own mates rows lap longer row out others person k gone m wrong bent -/
def f__law_quick_right : FnD := ⟨1, 20, (.cons (.asg (.cons (.name 1) (.cons (.name 2) .nil)) (.tup (.cons (.bin .add (.con (.int 1)) (.call 15 [true, false] (.cons (.var 0) (.cons (.con (.int 8)) .nil)))) (.cons (.bin .add (.con (.int 1)) (.call 15 [true, false] (.cons (.var 0) (.cons (.con (.int 9)) .nil)))) .nil)))) (.cons (.asg (.name 3) (.ite (.val (.cmp .gt (.var 2) (.var 1))) (.lst (.cons (.con (.str (PySem.Str.ofString "Unfit"))) (.cons (.con (.bool false)) .nil))) (.ite (.val (.cmp .eq (.var 1) (.con (.int 1)))) (.lst (.cons (.con (.str (PySem.Str.ofString "told"))) (.cons (.con (.int 0)) .nil))) (.ite (.val (.cmp .eq (.var 2) (.var 1))) (.lst (.cons (.con (.str (PySem.Str.ofString "NoPaper"))) (.cons (.con (.bool false)) .nil))) (.lst (.cons (.con (.str (PySem.Str.ofString "told"))) (.cons (.call 25 [] (.cons (.var 1) (.cons (.var 2) .nil))) .nil))))))) (.cons (.ife (.not (.val (.call 19 [] (.cons (.call 21 [] (.cons (.con (.int 1)) (.cons (.lst (.cons (.var 1) (.cons (.var 2) .nil))) .nil))) (.cons (.var 3) .nil))))) (.cons (.ret (.con (.bool false))) .nil) .nil) (.cons (.asg (.name 4) (.call 15 [true, false] (.cons (.var 0) (.cons (.var 1) .nil)))) (.cons (.asg (.name 5) (.call 21 [] (.cons (.con (.int 2)) (.cons (.lst (.cons (.var 1) (.cons (.var 4) (.cons (.var 2) .nil)))) .nil)))) (.cons (.ife (.val (.cmp .ne (.sub (.var 3) (.con (.int 0))) (.con (.str (PySem.Str.ofString "told"))))) (.cons (.ret (.cmp .eq (.var 5) (.var 3))) .nil) .nil) (.cons (.ife (.or (.val (.cmp .ne (.sub (.var 5) (.con (.int 0))) (.con (.str (PySem.Str.ofString "told"))))) (.or (.val (.cmp .ne (.bi .len (.cons (.sub (.var 5) (.con (.int 1))) .nil)) (.sub (.var 3) (.con (.int 1))))) (.not (.val (.call 13 [] (.cons (.var 1) (.cons (.var 4) (.cons (.var 2) (.cons (.sub (.var 5) (.con (.int 1))) .nil))))))))) (.cons (.ret (.con (.bool false))) .nil) .nil) (.cons (.ife (.or (.val (.cmp .ne (.comp (.var 6) [6] (.name 6) (.seq (.sub (.var 5) (.con (.int 1)))) (.or (.val (.cmp .ne (.bi .len (.cons (.var 6) .nil)) (.var 2))) (.or (.val (.cmp .ne (.var 6) (.bi .tuple (.cons (.bi .sortedSet (.cons (.var 6) .nil)) .nil)))) (.val (.cmp .notin (.var 4) (.var 6)))))) (.lst .nil))) (.val (.cmp .ne (.call 24 [] (.cons (.var 1) (.cons (.sub (.var 5) (.con (.int 1))) .nil))) (.ite (.or (.val (.cmp .gt (.var 1) (.con (.int 1)))) (.val (.cmp .ne (.sub (.var 5) (.con (.int 1))) (.tup .nil)))) (.lst (.cons (.var 4) .nil)) (.lstI (.rng1 (.var 1))))))) (.cons (.ret (.con (.bool false))) .nil) .nil) (.cons (.ife (.and (.val (.cmp .lt (.var 1) (.con (.int 6)))) (.and (.val (.cmp .lt (.sub (.var 3) (.con (.int 1))) (.con (.int 4)))) (.val (.cmp .gt (.sub (.var 3) (.con (.int 1))) (.con (.int 0)))))) (.cons (.asg (.name 7) (.comp (.var 6) [6] (.name 6) (.seq (.call 22 [] (.cons (.var 1) .nil))) (.val (.cmp .eq (.bi .len (.cons (.var 6) .nil)) (.var 2))))) (.cons (.asg (.name 8) (.lst (.cons (.tup .nil) .nil))) (.cons (.for (.name 9) (.rng1 (.bin .sub (.sub (.var 3) (.con (.int 1))) (.con (.int 1)))) (.cons (.asg (.name 10) (.lst .nil)) (.cons (.for (.name 11) (.seq (.var 8)) (.cons (.expr (.ext 10 (.comp (.bin .add (.var 11) (.tup (.cons (.var 6) .nil))) [6] (.name 6) (.seq (.var 7)) .yes))) .nil)) (.cons (.asg (.name 8) (.var 10)) .nil)))) (.cons (.ife (.val (.cmp .ne (.comp (.var 11) [11] (.name 11) (.seq (.var 8)) (.val (.cmp .eq (.bi .len (.cons (.call 24 [] (.cons (.var 1) (.cons (.var 11) .nil))) .nil)) (.con (.int 1))))) (.lst .nil))) (.cons (.ret (.con (.bool false))) .nil) .nil) .nil)))) .nil) (.cons (.asg (.name 12) (.bin .sub (.var 1) (.var 2))) (.cons (.asg (.name 13) (.comp (.var 14) [14] (.name 14) (.rng1 (.var 1)) (.val (.cmp .ne (.var 14) (.var 4))))) (.cons (.asg (.name 8) (.lst .nil)) (.cons (.for (.name 15) (.rng1 (.bi .len (.cons (.var 13) .nil))) (.cons (.asg (.name 16) (.comp (.sub (.var 13) (.bin .mod (.bin .add (.var 15) (.var 17)) (.bi .len (.cons (.var 13) .nil)))) [17] (.name 17) (.rng1 (.var 12)) .yes)) (.cons (.expr (.app 8 (.bi .tuple (.cons (.comp (.var 14) [14] (.name 14) (.rng1 (.var 1)) (.val (.cmp .notin (.var 14) (.var 16)))) .nil)))) .nil))) (.cons (.asg (.name 8) (.bi .tuple (.cons (.call 18 [true, false, false] (.cons (.var 0) (.cons (.var 8) (.cons (.bi .len (.cons (.var 8) .nil)) .nil)))) .nil))) (.cons (.ife (.not (.val (.call 13 [] (.cons (.var 1) (.cons (.var 4) (.cons (.var 2) (.cons (.var 8) .nil))))))) (.cons (.ret (.con (.bool false))) .nil) .nil) (.cons (.asg (.name 18) (.lst (.cons (.bi .list (.cons (.var 8) .nil)) (.cons (.ite (.and (.val (.cmp .lt (.bin .sub (.var 1) (.var 2)) (.bin .sub (.var 1) (.con (.int 1))))) (.val (.cmp .ne (.var 8) (.tup .nil)))) (.slc (.var 8) .none (.some (.con (.int 1)))) (.con .none)) (.cons (.bin .add (.var 8) (.tup (.cons (.tupI (.rng1 (.bin .add (.var 2) (.con (.int 1))))) .nil))) (.cons (.bin .add (.var 8) (.tup (.cons (.tup .nil) .nil))) (.cons (.bin .add (.var 8) (.tup (.cons (.con .none) .nil))) (.cons (.con .none) (.cons (.con (.int 0)) .nil))))))))) (.cons (.ife (.val (.cmp .ne (.var 8) (.tup .nil))) (.cons (.asg (.name 19) (.comp (.var 14) [14] (.name 14) (.rng1 (.var 1)) (.val (.cmp .notin (.var 14) (.sub (.var 8) (.con (.int 0))))))) (.cons (.asg (.name 18) (.bin .add (.var 18) (.lst (.cons (.ite (.val (.cmp .gt (.var 2) (.con (.int 1)))) (.bin .mul (.slc (.var 8) .none (.some (.con (.int 1)))) (.con (.int 9))) (.con .none)) (.cons (.bin .add (.tup (.cons (.bi .list (.cons (.sub (.var 8) (.con (.int 0))) .nil)) .nil)) (.slc (.var 8) (.some (.con (.int 1))) .none)) (.cons (.ite (.val (.cmp .gt (.var 2) (.con (.int 1)))) (.bin .add (.tup (.cons (.rev (.sub (.var 8) (.con (.int 0)))) .nil)) (.slc (.var 8) (.some (.con (.int 1))) .none)) (.con .none)) (.cons (.bin .add (.var 8) (.tup (.cons (.bi .tuple (.cons (.bi .sorted (.cons (.bin .add (.comp (.var 14) [14] (.name 14) (.seq (.sub (.var 8) (.con (.int 0)))) (.val (.cmp .ne (.var 14) (.var 4)))) (.slc (.var 19) .none (.some (.con (.int 1))))) .nil)) .nil)) .nil))) .nil))))))) .nil)) .nil) (.cons (.ret (.cmp .eq (.comp (.var 6) [6] (.name 6) (.seq (.var 18)) (.val (.call 13 [] (.cons (.var 1) (.cons (.var 4) (.cons (.var 2) (.cons (.var 6) .nil))))))) (.lst .nil))) .nil))))))))))))))))))⟩
/-- 27 law: script tin lap people sets k many handed lots own least told sure person tries -/
def f_law : FnD := ⟨1, 15, (.cons (.asg (.name 1) (.call 14 [] (.cons (.call 16 [true, false] (.cons (.var 0) (.cons (.con (.int 1)) .nil))) (.cons (.con (.int 0)) .nil)))) (.cons (.for (.name 2) (.rng1 (.con (.int 2))) (.cons (.asg (.name 3) (.call 17 [true, false] (.cons (.var 1) (.cons (.lst (.cons (.con (.int 8)) (.cons (.con (.int 1)) (.cons (.con (.int 5)) (.cons (.bin .add (.con (.int 2)) (.call 15 [true, false] (.cons (.var 1) (.cons (.con (.int 6)) .nil)))) .nil))))) .nil)))) (.cons (.asg (.name 4) (.lst .nil)) (.cons (.for (.name 5) (.rng1 (.call 17 [true, false] (.cons (.var 1) (.cons (.lst (.cons (.con (.int 12)) (.cons (.con (.int 0)) (.cons (.con (.int 3)) (.cons (.call 15 [true, false] (.cons (.var 1) (.cons (.con (.int 6)) .nil))) .nil))))) .nil)))) (.cons (.expr (.app 4 (.bi .tuple (.cons (.bi .sorted (.cons (.call 18 [true, false, false] (.cons (.var 1) (.cons (.lstI (.rng1 (.var 3))) (.cons (.bin .add (.con (.int 1)) (.call 15 [true, false] (.cons (.var 1) (.cons (.var 3) .nil)))) .nil)))) .nil)) .nil)))) .nil)) (.cons (.asg (.name 6) (.call 15 [true, false] (.cons (.var 1) (.cons (.bin .add (.var 3) (.con (.int 1))) .nil)))) (.cons (.asg (.name 7) (.call 20 [] (.cons (.var 4) .nil))) (.cons (.asg (.name 8) (.comp (.var 9) [9] (.name 9) (.seq (.call 22 [] (.cons (.var 3) .nil))) (.and (.val (.cmp .le (.bi .len (.cons (.var 9) .nil)) (.var 6))) (.val (.call 23 [] (.cons (.var 9) (.cons (.var 4) .nil))))))) (.cons (.asg (.name 10) (.comp (.var 9) [9] (.name 9) (.seq (.var 8)) (.val (.cmp .eq (.comp (.var 5) [5] (.name 5) (.rng1 (.bi .len (.cons (.var 9) .nil))) (.val (.call 23 [] (.cons (.bin .add (.slc (.var 9) .none (.some (.var 5))) (.slc (.var 9) (.some (.bin .add (.var 5) (.con (.int 1)))) .none)) (.cons (.var 4) .nil))))) (.lst .nil))))) (.cons (.asg (.name 11) (.call 8 [] (.cons (.var 3) (.cons (.var 7) (.cons (.var 6) .nil))))) (.cons (.ife (.not (.val (.thaw [11, 4] (.call 19 [] (.cons (.lst (.cons (.var 11) (.cons (.var 7) (.cons (.call 5 [] (.cons (.var 3) (.cons (.call 20 [] (.cons (.var 4) .nil)) .nil))) .nil)))) (.cons (.lst (.cons (.var 10) (.cons (.call 20 [] (.cons (.var 4) .nil)) (.cons (.bi .tuple (.cons (.call 24 [] (.cons (.var 3) (.cons (.var 4) .nil))) .nil)) .nil)))) .nil)))))) (.cons (.ret (.con (.bool false))) .nil) .nil) (.cons (.expr (.app 11 (.con (.int 0)))) (.cons (.asg (.name 12) (.bi .tuple (.cons (.comp (.var 13) [13] (.name 13) (.rng1 (.var 3)) (.val (.cmp .eq (.comp (.var 9) [9] (.name 9) (.seq (.var 8)) (.val (.cmp .notin (.var 13) (.var 9)))) (.lst .nil)))) .nil))) (.cons (.ife (.not (.val (.thaw [4] (.call 19 [] (.cons (.lst (.cons (.call 8 [] (.cons (.var 3) (.cons (.bi .tuple (.cons (.var 4) .nil)) (.cons (.var 6) .nil)))) (.cons (.call 21 [] (.cons (.con (.int 0)) (.cons (.lst (.cons (.var 3) (.cons (.call 20 [] (.cons (.var 4) .nil)) (.cons (.var 6) .nil)))) .nil))) .nil))) (.cons (.lst (.cons (.var 10) (.cons (.ite (.val (.cmp .ne (.var 8) (.lst .nil))) (.lst (.cons (.con (.str (PySem.Str.ofString "told"))) (.cons (.var 12) .nil))) (.lst (.cons (.con (.str (PySem.Str.ofString "NoPaper"))) (.cons (.con (.bool false)) .nil)))) .nil))) .nil)))))) (.cons (.ret (.con (.bool false))) .nil) .nil) (.cons (.asg (.name 14) (.bin .add (.bin .add (.call 18 [true, false, false] (.cons (.var 1) (.cons (.call 22 [] (.cons (.var 3) .nil)) (.cons (.con (.int 5)) .nil)))) (.slc (.var 8) .none (.some (.con (.int 2))))) (.lst (.cons (.tup (.cons (.var 3) .nil)) (.cons (.tup (.cons (.con (.int 0)) (.cons (.con (.int 0)) .nil))) (.cons (.ite (.val (.cmp .ne (.var 8) (.lst .nil))) (.bi .list (.cons (.sub (.var 8) (.con (.int 0))) .nil)) (.con .none)) (.cons (.con .none) (.cons (.con (.int 0)) (.cons (.tup (.cons (.neg (.con (.int 1))) .nil)) (.cons (.ite (.val (.cmp .notin (.tup (.cons (.con (.int 1)) .nil)) (.var 8))) (.tup (.cons (.con (.bool true)) .nil)) (.con .none)) .nil)))))))))) (.cons (.ife (.val (.cmp .ne (.comp (.var 9) [9] (.name 9) (.seq (.var 14)) (.val (.cmp .ne (.call 10 [] (.cons (.var 3) (.cons (.bi .tuple (.cons (.var 4) .nil)) (.cons (.var 6) (.cons (.var 9) .nil))))) (.and (.isi (.var 9) [.tuple]) (.cmp .eq (.var 8) (.lst (.cons (.var 9) .nil))))))) (.lst .nil))) (.cons (.ret (.con (.bool false))) .nil) .nil) (.cons (.ife (.and (.val (.cmp .ne (.var 4) (.lst .nil))) (.val (.cmp .ne (.comp (.var 9) [9] (.name 9) (.seq (.call 8 [] (.cons (.var 3) (.cons (.bi .tuple (.cons (.var 4) .nil)) (.cons (.var 6) .nil))))) (.val (.cmp .notin (.var 9) (.var 8)))) (.lst .nil)))) (.cons (.ret (.con (.bool false))) .nil) .nil) .nil)))))))))))))))) (.cons (.ret (.call 26 [true] (.cons (.var 1) .nil))) .nil)))⟩
def T : List FnD := [f_is_number, f_is_count, f_is_below, f_ascends, f_is_number_set, f_suspects_of, f_meets_all, f_lots_within, f_friend_lots, f_sure_of, f_is_only, f_least_rounds, f_quick_sets, f_is_quick, f__law_box, f__law_take, f__law_cells, f__law_of, f__law_pick, f__law_same, f__law_lists, f__law_heard, f__law_subsets, f__law_meets, f__law_common, f__law_rounds, f__law_quick_right, f_law]
def tb : Tb := ⟨[("is_number", 1), ("is_count", 1), ("is_below", 2), ("ascends", 1), ("is_number_set", 2), ("suspects_of", 2), ("meets_all", 2), ("lots_within", 3), ("friend_lots", 3), ("sure_of", 3), ("is_only", 4), ("least_rounds", 2), ("quick_sets", 3), ("is_quick", 4), ("_law_box", 2), ("_law_take", 2), ("_law_cells", 2), ("_law_of", 2), ("_law_pick", 3), ("_law_same", 2), ("_law_lists", 1), ("_law_heard", 2), ("_law_subsets", 1), ("_law_meets", 2), ("_law_common", 2), ("_law_rounds", 2), ("_law_quick_right", 1), ("law", 1)], ["Unfit", "NoPaper"]⟩
/-- name, place in the text, names, parameters -/
def defs : List Gn.Rw := [⟨"is_number", 4, ["thing"], ["thing"]⟩, ⟨"is_count", 5, ["thing"], ["thing"]⟩, ⟨"is_below", 6, ["thing", "many"], ["thing", "many"]⟩, ⟨"ascends", 7, ["thing", "near", "far"], ["thing"]⟩, ⟨"is_number_set", 8, ["thing", "many", "part"], ["thing", "many"]⟩, ⟨"suspects_of", 10, ["people", "sets", "person", "own"], ["people", "sets"]⟩, ⟨"meets_all", 11, ["lot", "sets", "person", "own"], ["lot", "sets"]⟩, ⟨"lots_within", 12, ["people", "sets", "many", "found", "person", "own"], ["people", "sets", "many"]⟩, ⟨"friend_lots", 13, ["people", "sets", "many", "found", "lot", "less", "place", "own"], ["people", "sets", "many"]⟩, ⟨"sure_of", 14, ["people", "sets", "many", "lots"], ["people", "sets", "many"]⟩, ⟨"is_only", 15, ["people", "sets", "many", "thing"], ["people", "sets", "many", "thing"]⟩, ⟨"least_rounds", 16, ["people", "each"], ["people", "each"]⟩, ⟨"quick_sets", 17, ["people", "friend", "each", "found", "out", "others", "person", "lap", "gone"], ["people", "friend", "each"]⟩, ⟨"is_quick", 18, ["people", "friend", "each", "thing", "own"], ["people", "friend", "each", "thing"]⟩, ⟨"_law_box", 20, ["script", "k", "cell"], ["script", "k"]⟩, ⟨"_law_take", 21, ["tin", "below_so", "drawn", "once_so", "wide_so", "twice_so"], ["tin", "below_so"]⟩, ⟨"_law_cells", 22, ["script", "most_so", "cells_so", "k", "cell_so", "at_so"], ["script", "most_so"]⟩, ⟨"_law_of", 23, ["tin", "goods_so"], ["tin", "goods_so"]⟩, ⟨"_law_pick", 24, ["tin", "goods_so", "count_so", "pool_so", "found", "lap"], ["tin", "goods_so", "count_so"]⟩, ⟨"_law_same", 25, ["got", "due", "mine", "its"], ["got", "due"]⟩, ⟨"_law_lists", 26, ["matter", "bit"], ["matter"]⟩, ⟨"_law_heard", 27, ["door", "its", "slip"], ["door", "its"]⟩, ⟨"_law_subsets", 28, ["many", "found", "person", "own"], ["many"]⟩, ⟨"_law_meets", 29, ["lot", "sets", "own", "person"], ["lot", "sets"]⟩, ⟨"_law_common", 30, ["people", "sets", "person", "own"], ["people", "sets"]⟩, ⟨"_law_rounds", 31, ["people", "each", "left", "rounds", "lap"], ["people", "each"]⟩, ⟨"_law_quick_right", 32, ["tin", "people", "each", "due", "friend", "told", "own", "mates", "rows", "lap", "longer", "row", "out", "others", "person", "k", "gone", "m", "wrong", "bent"], ["tin"]⟩, ⟨"law", 33, ["script", "tin", "lap", "people", "sets", "k", "many", "handed", "lots", "own", "least", "told", "sure", "person", "tries"], ["script"]⟩]
end K32

namespace K32
open Gn PySem
def dK : Kd := .v false true
def pk : List (List Kd) := [[dK],
 [dK],
 [dK,dK],
 [dK],
 [dK,dK],
 [dK,dK],
 [dK,dK],
 [dK,dK,dK],
 [dK,dK,dK],
 [dK,dK,dK],
 [dK,dK,dK,dK],
 [dK,dK],
 [dK,dK,dK],
 [dK,dK,dK,dK],
 [dK,dK],
 [.b,dK],
 [.l,dK],
 [.b,dK],
 [.b,dK,dK],
 [dK,dK],
 [dK],
 [dK,dK],
 [dK],
 [dK,dK],
 [dK,dK],
 [dK,dK],
 [.b],
 [.l]]
def rfs : List Bool := [true, true, true, true, true, true, true, true, true, true, true, true, true, true, true, true, true, false, true, true, false, true, true, true, true, true, true, true]
def sg : Sgs := List.zipWith Sg.mk pk rfs
theorem kAll_ok : kAll sg sg T = true := by decide +kernel
end K32

namespace K32
open Gn PySem

/-- the sets, as tuples or lists of tuples or lists -/
def SetsIs (d : PD) (ss : List (List Int)) : Prop := ∃ (enc : List Int → PD), (∀ s ∈ ss, seqOf (enc s) = some (s.map .int)) ∧ seqOf d = some (ss.map enc)
def meets (lot : List Int) (ss : List (List Int)) : Bool := ss.all fun s => lot.any fun p => s.contains p
def ppl (n : Nat) : List Int := (List.range n).map fun (i : Nat) => (i : Int)
theorem rng_ppl (n : Nat) : rngD 0 n = (ppl n).map PyData.int := by
  rw [rngD_map, ppl, List.map_map]
  apply List.map_congr_left
  intro i _
  show PyData.int (0 + (i : Int)) = .int i
  congr 1
  omega
section
variable {ψ : DFns}
theorem all_map_bool {γ : Type} (xs : List γ) (p : γ → Bool) : vd (biD .all [.list ((xs.filter fun _ => true).map fun s => .bool (p s))]) = some (.bool (xs.all p)) := by
  rw [filter_true]
  have e : (xs.map fun s => PyData.bool (p s)) = (xs.map p).map .bool := by rw [List.map_map]; rfl
  rw [e, all_bools, List.all_map]
  rfl
theorem any_map_bool {γ : Type} (xs : List γ) (p : γ → Bool) : vd (biD .any [.list ((xs.filter fun _ => true).map fun s => .bool (p s))]) = some (.bool (xs.any p)) := by
  rw [filter_true]
  have e : (xs.map fun s => PyData.bool (p s)) = (xs.map p).map .bool := by rw [List.map_map]; rfl
  rw [e, any_bools, List.any_map]
  rfl
theorem suspects_spec {n : Nat} (hn : n ≤ SL) {d : PD} {ss : List (List Int)} (h : SetsIs d ss) : drun ψ f_suspects_of [.int n, d] = .ok (tI ((ppl n).filter fun p => ss.all fun s => s.contains p)) [some (.int n), some d] := by
  obtain ⟨enc, h1, h2⟩ := h
  have hr : rngOk 0 (n : Int) = true := by
    unfold rngOk
    have : SL < 2 ^ 62 := by decide
    simp only [Bool.and_eq_true, decide_eq_true_eq]
    omega
  refine run_ret (δ := [some (.int n), some d, none, none]) rfl ?_
  refine S.consR (S.ret ?_)
  refine E.bi (ds := [.list (((ppl n).filter fun p => ss.all fun s => s.contains p).map .int)]) (E.cons ?_ E.nil) rfl
  refine E.compL _ (E.iR (E.var rfl) hr) ?_
  rw [show ((n : Int)).toNat = n from rfl, rng_ppl]
  refine comp_enc (p := fun p => ss.all fun s => s.contains p) (f := PyData.int) (Δ := fun p => [some (.int n), some d, some (.int p), none]) rfl (by decide) (fun _ _ => rfl) (fun _ _ => rfl) (fun _ _ => rfl) rfl (fun p _ => ?_) (fun p _ _ => E.var rfl)
  refine E.tV (d := .bool (ss.all fun s => s.contains p)) ?_ rfl
  refine E.bi (E.cons ?_ E.nil) (all_map_bool ss _)
  refine E.compL _ (E.iS (E.var rfl) h2) ?_
  exact comp_enc (p := fun _ => true) (f := fun s => .bool (s.contains p)) (Δ := fun s => [some (.int n), some d, some (.int p), some (enc s)]) rfl (by decide) (fun _ _ => rfl) (fun _ _ => rfl) (fun _ _ => rfl) rfl (fun _ _ => rfl) (fun s hs _ => E.cmp (E.var rfl) (E.var rfl) (isin_int (h1 s hs) p))
theorem meets_spec {l d : PD} {lot : List Int} {ss : List (List Int)} (hl : seqOf l = some (lot.map .int)) (h : SetsIs d ss) : drun ψ f_meets_all [l, d] = .ok (.bool (meets lot ss)) [some l, some d] := by
  obtain ⟨enc, h1, h2⟩ := h
  refine run_ret (δ := [some l, some d, none, none]) rfl ?_
  refine S.consR (S.ret ?_)
  refine E.bi (ds := [.list ((ss.filter fun _ => true).map fun s => .bool (lot.any fun p => s.contains p))]) (E.cons ?_ E.nil) (all_map_bool ss _)
  refine E.compL _ (E.iS (E.var rfl) h2) ?_
  refine comp_enc (p := fun _ => true) (f := fun s => .bool (lot.any fun p => s.contains p)) (Δ := fun s => [some l, some d, none, some (enc s)]) rfl (by decide) (fun _ _ => rfl) (fun _ _ => rfl) (fun _ _ => rfl) rfl (fun _ _ => rfl) (fun s hs _ => ?_)
  refine E.bi (ds := [.list ((lot.filter fun _ => true).map fun p => .bool (s.contains p))]) (E.cons ?_ E.nil) (any_map_bool lot _)
  refine E.compL _ (E.iS (E.var rfl) hl) ?_
  exact comp_enc (p := fun _ => true) (f := fun p => .bool (s.contains p)) (Δ := fun p => [some l, some d, some (.int p), some (enc s)]) rfl (by decide) (fun _ _ => rfl) (fun _ _ => rfl) (fun _ _ => rfl) rfl (fun _ _ => rfl) (fun p _ _ => E.cmp (E.var rfl) (E.var rfl) (isin_int (h1 s hs) p))
/-- all sets of the first ones, as they come -/
def subs : Nat → List (List Int)
  | 0 => [[]]
  | n + 1 => subs n ++ (subs n).map fun s => s ++ [(n : Int)]
theorem subs_len : ∀ n, (subs n).length = 2 ^ n
  | 0 => rfl
  | n + 1 => by
    simp only [subs, List.length_append, List.length_map, subs_len n]
    omega
theorem ppl_split {n : Nat} {pre post : List PD} {d : PD} (e : rngD 0 n = pre ++ d :: post) : d = .int pre.length ∧ pre.length < n := by
  have hl := congrArg List.length e
  rw [rngD_map] at e hl
  simp only [List.length_map, List.length_range, List.length_append, List.length_cons] at hl
  have lt : pre.length < n := by omega
  have q := congrArg (fun l => l[pre.length]?) e
  simp only [List.getElem?_map, List.getElem?_append_right (Nat.le_refl _), Nat.sub_self, List.getElem?_cons_zero, List.getElem?_range lt, Option.map_some, Option.some.injEq] at q
  refine ⟨?_, lt⟩
  rw [← q]
  congr 1
  omega
theorem subs_short : ∀ (n : Nat), ∀ s ∈ subs n, s.length ≤ n
  | 0, s, h => by
    simp only [subs, List.mem_singleton] at h
    subst h; exact Nat.le_refl 0
  | n + 1, s, h => by
    simp only [subs, List.mem_append, List.mem_map] at h
    rcases h with h | ⟨r, h, rfl⟩
    · exact Nat.le_succ_of_le (subs_short n s h)
    · rw [List.length_append]
      exact Nat.succ_le_succ (subs_short n r h)
theorem rngOk_small {n : Nat} (hn : n ≤ SL) : rngOk 0 (n : Int) = true := by
  unfold rngOk
  have : SL < 2 ^ 62 := by decide
  simp only [Bool.and_eq_true, decide_eq_true_eq]
  omega
theorem add_list {xs ys : List PD} (h : xs.length + ys.length ≤ SL) : vd (binD .add (.list xs) (.list ys)) = some (.list (xs ++ ys)) := by
  unfold binD
  simp only [h, if_true]
  rfl
theorem add_tup {xs ys : List PD} (h : xs.length + ys.length ≤ SL) : vd (binD .add (.tuple xs) (.tuple ys)) = some (.tuple (xs ++ ys)) := by
  unfold binD
  simp only [h, if_true]
  rfl
theorem pow8 {k : Nat} (h : k ≤ 8) : 2 ^ k ≤ 256 := Nat.le_trans (Nat.pow_le_pow_right (by decide) h) (by decide)
/-- the turn that doubles the sets -/
theorem double {k : Nat} (hk : k ≤ 7) {δ : DEnv} {i j o : Nat} {c : CS} (hc : c = .asg (.name i) (.bin .add (.var i) (.comp (.bin .add (.var o) (.tup (.cons (.var j) .nil))) [o] (.name o) (.seq (.var i)) .yes)))
    (hi : getD' δ i = some (.list ((subs k).map tI))) (hw : ∀ s, dasg (.name o) s (wipeD δ [o]) = .ok () (δ.set o (some s))) (hs : ∀ s, wipeD (δ.set o (some s)) [o] = wipeD δ [o]) (hb : ∀ s, backD δ (δ.set o (some s)) [o] = δ) (hb' : backD δ δ [o] = δ)
    (ho : ∀ s, getD' (δ.set o (some s)) o = some s) (hj : ∀ s, getD' (δ.set o (some s)) j = some (.int k)) (hl : i < δ.length) :
    dx ψ c δ = .ok .next (δ.set i (some (.list ((subs (k + 1)).map tI)))) := by
  subst hc
  have sl : (subs k).length ≤ 256 := by rw [subs_len]; exact pow8 (by omega)
  have SLv : 1000 ≤ SL := by decide
  refine S.asg (d := .list ((subs (k + 1)).map tI)) (δ1 := δ) (E.bin (E.var hi) (E.compL ((subs k).map fun s => tI (s ++ [(k : Int)])) (E.iS (E.var hi) rfl) ?_) ?_) ?_
  · refine comp_enc (enc := tI) (p := fun _ => true) (f := fun s => tI (s ++ [(k : Int)])) (Δ := fun s => δ.set o (some (tI s))) ?_ ?_ (fun s _ => hw _) (fun s _ => hs _) (fun s _ => hb _) hb' (fun _ _ => rfl) (fun s h _ => ?_)
    · rw [filter_true]
    · simp [namesT]
    · have := subs_short k s h
      refine E.bin (E.var (ho _)) (E.tup (E.cons (E.var (hj _)) E.nil)) ?_
      rw [add_tup (by simp only [List.length_map, List.length_cons, List.length_nil]; omega)]
      simp only [tI, List.map_append, List.map_cons, List.map_nil]
  · rw [add_list (by simp only [List.length_map]; omega)]
    simp only [subs, List.map_append, List.map_map]
    rfl
  · show wrD i _ δ = _
    unfold wrD
    rw [if_pos hl]
theorem sorted_map (xs : List (List Int)) : vd (biD .sorted [.list (xs.map tI)]) = some (.list (sortL (xs.map tI))) := by
  simp only [biD, sortD_tI, Option.map_some]
  rfl
/-- all sets, ascending -/
def ssub (n : Nat) : List (List Int) := (sortL ((subs n).map tI)).map unT
theorem ssub_eq (n : Nat) : sortL ((subs n).map tI) = (ssub n).map tI := by
  obtain ⟨ys, h1, h2⟩ := sort_tI (subs n)
  unfold ssub
  rw [h1, unT_map]
theorem ssub_perm (n : Nat) : (ssub n).Perm (subs n) := by
  obtain ⟨ys, h1, h2⟩ := sort_tI (subs n)
  unfold ssub
  rw [h1, unT_map]
  exact h2
theorem ssub_filter (n : Nat) (p : List Int → Bool) : sortL (((subs n).filter p).map tI) = ((ssub n).filter p).map tI := by
  have e : ∀ xs : List (List Int), (xs.filter p).map tI = (xs.map tI).filter fun d => p (unT d) := fun xs => by
    rw [List.filter_map]
    congr 1
    apply List.filter_congr
    intro x _
    show p x = p (unT (tI x))
    rw [unT_tI]
  rw [e, sort_filter (alike_all_tI _), ssub_eq, e]
theorem subsets_spec {n : Nat} (hn : n ≤ 8) : drun ψ f__law_subsets [.int n] = .ok (.list ((ssub n).map tI)) [some (.int n)] := by
  have SLv : 1000 ≤ SL := by decide
  obtain ⟨δ', l1, l2⟩ := dfor_inv (t := .name 2) (b := dxs ψ (.cons (.asg (.name 1) (.bin .add (.var 1) (.comp (.bin .add (.var 3) (.tup (.cons (.var 2) .nil))) [3] (.name 3) (.seq (.var 1)) .yes))) .nil))
    (fun pre δ => ∃ x y, δ = [some (.int n), some (.list ((subs pre.length).map tI)), x, y]) (rngD 0 n) [] [some (.int n), some (.list ((subs 0).map tI)), none, none] ⟨_, _, rfl⟩
    (fun pre d post δ e ⟨x, y, hδ⟩ => by
      rw [List.nil_append] at e
      obtain ⟨rfl, lt⟩ := ppl_split e
      subst hδ
      refine ⟨_, rfl, _, .inl (S.cons (double (k := pre.length) (by omega) rfl rfl (fun _ => rfl) (fun _ => rfl) (fun _ => rfl) rfl (fun _ => rfl) (fun _ => rfl) (by simp)) S.nil), some (.int pre.length), y, ?_⟩
      rw [List.length_append]
      rfl)
  obtain ⟨x, y, rfl⟩ := l2
  have hlen : (rngD 0 n).length = n := by rw [rngD_map, List.length_map, List.length_range]
  rw [List.nil_append, hlen] at l1
  refine run_ret (δ := [some (.int n), some (.list ((subs n).map tI)), x, y]) rfl ?_
  refine S.cons (S.asg (E.lst (E.cons (E.tup E.nil) E.nil)) rfl) ?_
  refine S.cons (S.for (E.iR (E.var rfl) (rngOk_small (by omega))) l1) ?_
  refine S.consR (S.ret (E.bi (E.cons (E.var rfl) E.nil) ?_))
  rw [sorted_map, ssub_eq]
end
end K32

namespace K32
open Gn PySem

def fits (m : Int) (ss : List (List Int)) (s : List Int) : Bool := decide ((s.length : Int) ≤ m) && meets s ss
/-- the lots -/
def lots (n : Nat) (m : Int) (ss : List (List Int)) : List (List Int) := (ssub n).filter (fits m ss)
theorem ceq_nil (xs : List PD) : cmpD .eq (.list xs) (.list []) = some xs.isEmpty := by
  have : cmpD .eq (.list xs) (.list []) = some (PyData.eqv (.list xs) (.list [])) := by
    show (if _ then _ else _) = _
    rw [if_pos (by rw [Bool.or_eq_true]; exact .inr (by rfl))]
  rw [this]
  cases xs <;> simp [PyData.eqv, PyData.eqvAll]
theorem le_int (i j : Int) : cmpD .le (.int i) (.int j) = some (decide (i ≤ j)) := rfl
section
variable {ψ : DFns}
theorem lots_spec {n : Nat} (hn : n ≤ 8) {d : PD} {ss : List (List Int)} {m : Int} (hm : ∀ s : List Int, ψ 6 [tI s, d] = .ok (.bool (meets s ss)) [some (tI s), some d]) :
    drun ψ f_lots_within [.int n, d, .int m] = .ok (.list ((lots n m ss).map tI)) [some (.int n), some d, some (.int m)] := by
  have SLv : 1000 ≤ SL := by decide
  obtain ⟨δ', l1, l2⟩ := dfor_inv (t := .name 4) (b := dxs ψ (.cons (.asg (.name 3) (.bin .add (.var 3) (.comp (.bin .add (.var 5) (.tup (.cons (.var 4) .nil))) [5] (.name 5) (.seq (.var 3)) .yes))) .nil))
    (fun pre δ => ∃ x y, δ = [some (.int n), some d, some (.int m), some (.list ((subs pre.length).map tI)), x, y]) (rngD 0 n) [] [some (.int n), some d, some (.int m), some (.list ((subs 0).map tI)), none, none] ⟨_, _, rfl⟩
    (fun pre d' post δ e ⟨x, y, hδ⟩ => by
      rw [List.nil_append] at e
      obtain ⟨rfl, lt⟩ := ppl_split e
      subst hδ
      refine ⟨_, rfl, _, .inl (S.cons (double (k := pre.length) (by omega) rfl rfl (fun _ => rfl) (fun _ => rfl) (fun _ => rfl) rfl (fun _ => rfl) (fun _ => rfl) (by simp)) S.nil), some (.int pre.length), y, ?_⟩
      rw [List.length_append]
      rfl)
  obtain ⟨x, y, rfl⟩ := l2
  have hlen : (rngD 0 n).length = n := by rw [rngD_map, List.length_map, List.length_range]
  rw [List.nil_append, hlen] at l1
  refine run_ret (δ := [some (.int n), some d, some (.int m), some (.list ((subs n).map tI)), x, y]) rfl ?_
  refine S.cons (S.asg (E.lst (E.cons (E.tup E.nil) E.nil)) rfl) ?_
  refine S.cons (S.for (E.iR (E.var rfl) (rngOk_small (by omega))) l1) ?_
  refine S.consR (S.ret ?_)
  refine E.bi (ds := [.list (((subs n).filter (fits m ss)).map tI)]) (E.cons ?_ E.nil) ?_
  · refine E.compL _ (E.iS (E.var rfl) rfl) ?_
    refine comp_enc (enc := tI) (p := fits m ss) (f := tI) (Δ := fun s => [some (.int n), some d, some (.int m), some (.list ((subs n).map tI)), x, some (tI s)]) rfl (by decide) (fun _ _ => rfl) (fun _ _ => rfl) (fun _ _ => rfl) rfl (fun s _ => ?_) (fun s _ _ => E.var rfl)
    refine E.tA (k := decide ((s.length : Int) ≤ m)) (δ1 := [some (.int n), some d, some (.int m), some (.list ((subs n).map tI)), x, some (tI s)]) (E.tV (E.cmp (E.bi (r := .int s.length) (E.cons (E.var rfl) E.nil) ?_) (E.var rfl) (le_int _ _)) rfl) ?_
    · show some (PyData.int (s.map PyData.int).length) = _
      rw [List.length_map]
    · unfold fits
      cases decide ((s.length : Int) ≤ m) with
      | true =>
        rw [if_pos rfl]
        exact E.tV (E.call (E.aV (E.var rfl) (E.aV (E.var rfl) E.aN)) rfl (hm s)) rfl
      | false => rfl
  · rw [sorted_map, ssub_filter]; rfl
theorem law_meets_spec {l d : PD} {lot : List Int} {ss : List (List Int)} (hl : seqOf l = some (lot.map .int)) (h : SetsIs d ss) : drun ψ f__law_meets [l, d] = .ok (.bool (meets lot ss)) [some l, some d] := by
  obtain ⟨enc, h1, h2⟩ := h
  refine run_ret (δ := [some l, some d, none, none]) rfl ?_
  refine S.consR (S.ret ?_)
  refine E.cmp (d := .list ((ss.filter fun s => (s.filter fun p => lot.contains p).isEmpty).map enc)) ?_ (E.lst E.nil) ?_
  · refine E.compL _ (E.iS (E.var rfl) h2) ?_
    refine comp_enc (enc := enc) (p := fun s => (s.filter fun p => lot.contains p).isEmpty) (f := enc) (Δ := fun s => [some l, some d, some (enc s), none]) rfl (by decide) (fun _ _ => rfl) (fun _ _ => rfl) (fun _ _ => rfl) rfl (fun s hs => ?_) (fun s _ _ => E.var rfl)
    refine E.tV (E.cmp (d := .list ((s.filter fun p => lot.contains p).map .int)) ?_ (E.lst E.nil) (ceq_nil _)) ?_
    · refine E.compL _ (E.iS (E.var rfl) (h1 s hs)) ?_
      exact comp_enc (p := fun p => lot.contains p) (f := PyData.int) (Δ := fun p => [some l, some d, some (enc s), some (.int p)]) rfl (by decide) (fun _ _ => rfl) (fun _ _ => rfl) (fun _ _ => rfl) rfl (fun p _ => E.tV (E.cmp (E.var rfl) (E.var rfl) (isin_int hl p)) rfl) (fun p _ _ => E.var rfl)
    · show some ((List.map PyData.int _).isEmpty) = _
      rw [List.isEmpty_map]
  · rw [ceq_nil, List.isEmpty_map]
    congr 1
    rw [Bool.eq_iff_iff]
    simp only [meets, List.isEmpty_iff, List.filter_eq_nil_iff, List.all_eq_true, List.any_eq_true, List.contains_iff_mem, decide_eq_true_eq]
    constructor
    · intro q s hs
      have := q s hs
      simp only [Classical.not_forall, Classical.not_not] at this
      obtain ⟨p, hp, hq⟩ := this
      exact ⟨p, hq, hp⟩
    · intro q s hs z
      obtain ⟨p, hp, hq⟩ := q s hs
      exact z p hq hp
theorem common_spec {n : Nat} (hn : n ≤ SL) {d : PD} {ss : List (List Int)} (h : SetsIs d ss) : drun ψ f__law_common [.int n, d] = .ok (.list (((ppl n).filter fun p => ss.all fun s => s.contains p).map .int)) [some (.int n), some d] := by
  obtain ⟨enc, h1, h2⟩ := h
  refine run_ret (δ := [some (.int n), some d, none, none]) rfl ?_
  refine S.consR (S.ret ?_)
  refine E.compL _ (E.iR (E.var rfl) (rngOk_small hn)) ?_
  rw [show ((n : Int)).toNat = n from rfl, rng_ppl]
  refine comp_enc (p := fun p => ss.all fun s => s.contains p) (f := PyData.int) (Δ := fun p => [some (.int n), some d, some (.int p), none]) rfl (by decide) (fun _ _ => rfl) (fun _ _ => rfl) (fun _ _ => rfl) rfl (fun p _ => ?_) (fun p _ _ => E.var rfl)
  refine E.tV (E.cmp (d := .list ((ss.filter fun s => !s.contains p).map enc)) ?_ (E.lst E.nil) (ceq_nil _)) ?_
  · refine E.compL _ (E.iS (E.var rfl) h2) ?_
    exact comp_enc (p := fun s => !s.contains p) (f := enc) (Δ := fun s => [some (.int n), some d, some (.int p), some (enc s)]) rfl (by decide) (fun _ _ => rfl) (fun _ _ => rfl) (fun _ _ => rfl) rfl (fun s hs => E.tV (E.cmp (E.var rfl) (E.var rfl) (notin_int (h1 s hs) p)) rfl) (fun s _ _ => E.var rfl)
  · show some ((List.map enc _).isEmpty) = _
    rw [List.isEmpty_map]
    congr 1
    rw [Bool.eq_iff_iff]
    simp [List.filter_eq_nil_iff]
/-- none of its members can be left out -/
def bare (ss : List (List Int)) (s : List Int) : Bool := !((List.range s.length).any fun i => meets (s.eraseIdx i) ss)
theorem cut_lo (l : List Int) (i : Nat) (h : i < l.length) : cutD (l.map PyData.int) none (some (i : Int)) = (l.take i).map .int := by
  unfold cutD
  rw [HT.sIx_nat, List.length_map, HT.sIx_none]
  simp only [List.drop_zero, Nat.sub_zero, ← List.map_take]
  rw [Nat.min_eq_left (by omega)]
theorem cut_hi (l : List Int) (i : Nat) (h : i < l.length) : cutD (l.map PyData.int) (some ((i : Int) + 1)) none = (l.drop (i + 1)).map .int := by
  unfold cutD
  rw [show ((i : Int) + 1) = ((i + 1 : Nat) : Int) by omega, HT.sIx_nat, List.length_map, HT.sIx_none, Nat.min_eq_left (by omega), ← List.map_drop]
  rw [← List.map_take, List.take_of_length_le (by rw [List.length_drop]; omega)]
/-- a comprehension of the places of l: l without each -/
theorem erase_at {δ : DEnv} {a b : CE} {l : List Int} {i : Nat} (hl : l.length ≤ 100) (h : i < l.length) {va vi : Nat} (ha : getD' δ va = some (tI l)) (hi : getD' δ vi = some (.int i)) :
    de ψ (.bin .add (.slc (.var va) .none (.some (.var vi))) (.slc (.var va) (.some (.bin .add (.var vi) (.con (.int 1)))) .none)) δ = .ok (tI (l.eraseIdx i)) δ := by
  have SLv : 1000 ≤ SL := by decide
  refine E.bin (d := tI (l.take i)) (e := tI (l.drop (i + 1))) (E.slc (E.var ha) E.oN (E.oS (E.var hi)) ?_) (E.slc (E.var ha) (E.oS (E.bin (E.var hi) E.con rfl)) E.oN ?_) ?_
  · show some (PyData.tuple (cutD _ _ _)) = _
    rw [cut_lo l i h]
  · show some (PyData.tuple (cutD _ _ _)) = _
    rw [cut_hi l i h]
  · rw [add_tup (by simp only [List.length_map, List.length_take, List.length_drop]; omega), ← List.map_append, ← List.eraseIdx_eq_take_drop_succ]
theorem lots_mem {n : Nat} {m : Int} {ss : List (List Int)} {s : List Int} (h : s ∈ lots n m ss) : s ∈ subs n ∧ fits m ss s = true := by
  have := List.mem_filter.mp h
  exact ⟨(ssub_perm n).subset this.1, this.2⟩
theorem friend_spec {n : Nat} (hn : n ≤ 8) {d : PD} {ss : List (List Int)} {m : Int} (hm : ∀ s : List Int, ψ 6 [tI s, d] = .ok (.bool (meets s ss)) [some (tI s), some d])
    (hl : ψ 7 [.int n, d, .int m] = .ok (.list ((lots n m ss).map tI)) [some (.int n), some d, some (.int m)]) :
    drun ψ f_friend_lots [.int n, d, .int m] = .ok (.list (((lots n m ss).filter (bare ss)).map tI)) [some (.int n), some d, some (.int m)] := by
  have SLv : 1000 ≤ SL := by decide
  have ll : (lots n m ss).length ≤ 256 := by
    refine Nat.le_trans (List.length_filter_le ..) ?_
    rw [(ssub_perm n).length_eq, subs_len]
    exact pow8 hn
  obtain ⟨δ', l1, x, y, z, w, rfl⟩ := dfor_enc (enc := tI) (t := .name 4) (b := dxs ψ (.cons (.asg (.name 5) (.comp (.bin .add (.slc (.var 4) .none (.some (.var 6))) (.slc (.var 4) (.some (.bin .add (.var 6) (.con (.int 1)))) .none)) [6] (.name 6) (.rng1 (.bi .len (.cons (.var 4) .nil))) .yes)) (.cons (.ife (.not (.val (.bi .any (.cons (.comp (.call 6 [] (.cons (.var 7) (.cons (.var 1) .nil))) [7] (.name 7) (.seq (.var 5)) .yes) .nil)))) (.cons (.expr (.app 3 (.var 4))) .nil) .nil) .nil)))
    (fun done δ => ∃ x y z w : Option PD, δ = [some (.int n), some d, some (.int m), some (.list ((done.filter (bare ss)).map tI)), x, y, z, w]) (lots n m ss) [] [some (.int n), some d, some (.int m), some (.list []), none, none, none, none] ⟨_, _, _, _, rfl⟩
    (fun done s todo δ e ⟨x, y, z, w, hδ⟩ => by
      rw [List.nil_append] at e
      have hs : s ∈ lots n m ss := by rw [e]; exact List.mem_append_right _ (List.mem_cons_self ..)
      have sl : s.length ≤ 8 := Nat.le_trans (subs_short n s (lots_mem hs).1) hn
      subst hδ
      refine ⟨_, rfl, [some (.int n), some d, some (.int m), some (.list (((done ++ [s]).filter (bare ss)).map tI)), some (tI s), some (.list ((List.range s.length).map fun i => tI (s.eraseIdx i))), z, w], .inl ?_, _, _, _, _, rfl⟩
      refine S.cons (δ1 := [some (.int n), some d, some (.int m), some (.list ((done.filter (bare ss)).map tI)), some (tI s), some (.list ((List.range s.length).map fun i => tI (s.eraseIdx i))), z, w]) (S.asg (d := .list ((List.range s.length).map fun i => tI (s.eraseIdx i))) (δ1 := [some (.int n), some d, some (.int m), some (.list ((done.filter (bare ss)).map tI)), some (tI s), y, z, w]) (E.compL _ (E.iR (j := (s.length : Nat)) (E.bi (E.cons (E.var rfl) E.nil) (by show some (PyData.int (List.map _ _).length) = _; rw [List.length_map])) (rngOk_small (by omega))) ?_) rfl) ?_
      · rw [show ((s.length : Nat) : Int).toNat = s.length from rfl, rngD_map]
        refine comp_enc (enc := fun (i : Nat) => PyData.int (0 + (i : Int))) (p := fun _ => true) (f := fun i => tI (s.eraseIdx i)) (Δ := fun i => [some (.int n), some d, some (.int m), some (.list ((done.filter (bare ss)).map tI)), some (tI s), y, some (.int (0 + (i : Int))), w]) ?_ (by decide) (fun _ _ => rfl) (fun _ _ => rfl) (fun _ _ => rfl) rfl (fun _ _ => rfl) (fun i hi _ => ?_)
        · rw [filter_true]
        · exact erase_at (a := .var 0) (b := .var 0) (by omega) (List.mem_range.mp hi) rfl (by show some (PyData.int (0 + (i : Int))) = _; rw [Int.zero_add])
      · refine S.cons (S.ife (k := bare ss s) (δ1 := [some (.int n), some d, some (.int m), some (.list ((done.filter (bare ss)).map tI)), some (tI s), some (.list ((List.range s.length).map fun i => tI (s.eraseIdx i))), z, w]) (E.tN (E.tV (d := .bool ((List.range s.length).any fun i => meets (s.eraseIdx i) ss)) ?_ rfl)) ?_) S.nil
        · refine E.bi (ds := [.list (((List.range s.length).filter fun _ => true).map fun i => .bool (meets (s.eraseIdx i) ss))]) (E.cons ?_ E.nil) (any_map_bool _ _)
          refine E.compL _ (E.iS (E.var rfl) rfl) ?_
          exact comp_enc (enc := fun i => tI (s.eraseIdx i)) (p := fun _ => true) (f := fun i => .bool (meets (s.eraseIdx i) ss)) (Δ := fun i => [some (.int n), some d, some (.int m), some (.list ((done.filter (bare ss)).map tI)), some (tI s), some (.list ((List.range s.length).map fun i => tI (s.eraseIdx i))), z, some (tI (s.eraseIdx i))]) rfl (by decide) (fun _ _ => rfl) (fun _ _ => rfl) (fun _ _ => rfl) rfl (fun _ _ => rfl) (fun i _ _ => E.call (E.aV (E.var rfl) (E.aV (E.var rfl) E.aN)) rfl (hm _))
        · cases hb : bare ss s with
          | true =>
            rw [if_pos rfl, List.filter_append, List.map_append, List.filter_cons_of_pos hb]
            refine S.cons (S.expr (E.app rfl (E.var rfl) rfl ?_)) S.nil
            rw [List.length_map]
            have := List.length_filter_le (bare ss) done
            have : done.length ≤ 256 := by
              have := congrArg List.length e
              rw [List.length_append] at this
              omega
            omega
          | false =>
            rw [if_neg Bool.false_ne_true, List.filter_append, List.filter_cons_of_neg (by rw [hb]; exact Bool.false_ne_true), List.filter_nil, List.append_nil]
            exact S.nil)
  rw [List.nil_append] at l1
  refine run_ret (δ := [some (.int n), some d, some (.int m), some (.list (((lots n m ss).filter (bare ss)).map tI)), x, y, z, w]) rfl ?_
  refine S.cons (S.asg (E.lst E.nil) rfl) ?_
  refine S.cons (S.for (E.iS (E.call (E.aV (E.var rfl) (E.aV (E.var rfl) (E.aV (E.var rfl) E.aN))) rfl hl) rfl) l1) ?_
  exact S.consR (S.ret (E.var rfl))
end
end K32

namespace K32
open Gn PySem

def asc : List Int → Bool
  | a :: b :: r => decide (a < b) && asc (b :: r)
  | _ => true
def nset (l : List Int) (p : Int) : Bool := (l.all fun x => decide (0 ≤ x) && decide (x < p)) && asc l
theorem lt_int (i j : Int) : cmpD .lt (.int i) (.int j) = some (decide (i < j)) := rfl
theorem ge_int (i j : Int) : cmpD .ge (.int i) (.int j) = some (decide (j ≤ i)) := rfl
section
variable {ψ : DFns}
theorem number_spec (x : Int) : drun ψ f_is_number [.int x] = .ok (.bool true) [some (.int x)] := rfl
theorem count_spec (h0 : ∀ x : Int, ψ 0 [.int x] = .ok (.bool true) [some (.int x)]) (x : Int) : drun ψ f_is_count [.int x] = .ok (.bool (decide (0 ≤ x))) [some (.int x)] := by
  refine run_ret (δ := [some (.int x)]) rfl (S.consR (S.ret (E.and (k := true) (d := .bool true) (δ1 := [some (.int x)]) (E.call (E.aV (E.var rfl) E.aN) rfl (h0 x)) rfl ?_)))
  rw [if_pos rfl]
  exact E.cmp (E.var rfl) E.con (ge_int x 0)
theorem below_spec (h1 : ∀ x : Int, ψ 1 [.int x] = .ok (.bool (decide (0 ≤ x))) [some (.int x)]) (x p : Int) : drun ψ f_is_below [.int x, .int p] = .ok (.bool (decide (0 ≤ x) && decide (x < p))) [some (.int x), some (.int p)] := by
  refine run_ret (δ := [some (.int x), some (.int p)]) rfl (S.consR (S.ret (E.and (k := decide (0 ≤ x)) (d := .bool (decide (0 ≤ x))) (δ1 := [some (.int x), some (.int p)]) (E.call (E.aV (E.var rfl) E.aN) rfl (h1 x)) rfl ?_)))
  cases decide (0 ≤ x) with
  | true =>
    rw [if_pos rfl]
    exact E.cmp (E.var rfl) (E.var rfl) (lt_int x p)
  | false => rfl
theorem zip_tail : ∀ (l : List Int), zipD (l.map PyData.int) ((l.map PyData.int).drop 1) = (l.zip l.tail).map fun q => PyData.tuple [.int q.1, .int q.2]
  | [] => rfl
  | [_] => rfl
  | a :: b :: r => by
    have := zip_tail (b :: r)
    simp only [List.map_cons, zipD, List.drop_succ_cons, List.drop_zero, List.tail_cons, List.zipWith_cons_cons, List.zip_cons_cons] at this ⊢
    rw [this]
theorem asc_zip : ∀ l : List Int, ((l.zip l.tail).all fun q => decide (q.1 < q.2)) = asc l
  | [] => rfl
  | [_] => rfl
  | a :: b :: r => by
    have := asc_zip (b :: r)
    simp only [List.tail_cons, List.zip_cons_cons, List.all_cons, asc] at this ⊢
    rw [this]
theorem ascends_spec (l : List Int) : drun ψ f_ascends [tI l] = .ok (.bool (asc l)) [some (tI l)] := by
  refine run_ret (δ := [some (tI l), none, none]) rfl (S.consR (S.ret ?_))
  refine E.bi (ds := [.list (((l.zip l.tail).filter fun _ => true).map fun q => .bool (decide (q.1 < q.2)))]) (E.cons ?_ E.nil) (by rw [all_map_bool, asc_zip])
  refine E.compL _ (E.iZ (e := .tuple ((l.map PyData.int).drop 1)) (E.var rfl) (E.slc (E.var rfl) (E.oS E.con) E.oN ?_) rfl) ?_
  · show some (PyData.tuple (cutD _ (some ((1 : Nat) : Int)) _)) = _
    unfold cutD
    rw [HT.sIx_nat, HT.sIx_none, List.length_map]
    congr 2
    cases l with
    | nil => rfl
    | cons a r =>
      rw [List.length_cons, Nat.min_eq_left (by omega), List.take_of_length_le (by rw [List.length_drop, List.length_map, List.length_cons]; omega)]
  · rw [zip_tail]
    exact comp_enc (enc := fun q : Int × Int => PyData.tuple [.int q.1, .int q.2]) (p := fun _ => true) (f := fun q => .bool (decide (q.1 < q.2))) (Δ := fun q => [some (tI l), some (.int q.1), some (.int q.2)]) rfl (by decide) (fun _ _ => rfl) (fun _ _ => rfl) (fun _ _ => rfl) rfl (fun _ _ => rfl) (fun q _ _ => E.cmp (E.var rfl) (E.var rfl) (lt_int _ _))
theorem numset_spec (h2 : ∀ x p : Int, ψ 2 [.int x, .int p] = .ok (.bool (decide (0 ≤ x) && decide (x < p))) [some (.int x), some (.int p)]) (h3 : ∀ l : List Int, ψ 3 [tI l] = .ok (.bool (asc l)) [some (tI l)]) (l : List Int) (p : Int) :
    drun ψ f_is_number_set [tI l, .int p] = .ok (.bool (nset l p)) [some (tI l), some (.int p)] := by
  have hd : dt ψ (.or (.not (.val (.isi (.var 0) [.tuple]))) (.not (.val (.bi .all (.cons (.comp (.call 2 [] (.cons (.var 2) (.cons (.var 1) .nil))) [2] (.name 2) (.seq (.var 0)) .yes) .nil))))) [some (tI l), some (.int p), none] = .ok (!(l.all fun x => decide (0 ≤ x) && decide (x < p))) [some (tI l), some (.int p), none] := by
    refine E.tO (k := false) (δ1 := [some (tI l), some (.int p), none]) (E.tN (k := true) (E.tV (E.isi (E.var rfl)) rfl)) ?_
    rw [if_neg Bool.false_ne_true]
    refine E.tN (E.tV (d := .bool (l.all fun x => decide (0 ≤ x) && decide (x < p))) ?_ rfl)
    refine E.bi (ds := [.list ((l.filter fun _ => true).map fun x => .bool (decide (0 ≤ x) && decide (x < p)))]) (E.cons ?_ E.nil) (all_map_bool _ _)
    refine E.compL _ (E.iS (E.var rfl) rfl) ?_
    exact comp_enc (enc := PyData.int) (p := fun _ => true) (f := fun x => .bool (decide (0 ≤ x) && decide (x < p))) (Δ := fun x => [some (tI l), some (.int p), some (.int x)]) rfl (by decide) (fun _ _ => rfl) (fun _ _ => rfl) (fun _ _ => rfl) rfl (fun _ _ => rfl) (fun x _ _ => E.call (E.aV (E.var rfl) (E.aV (E.var rfl) E.aN)) rfl (h2 x p))
  unfold nset
  cases hb : l.all fun x => decide (0 ≤ x) && decide (x < p) with
  | true =>
    rw [hb] at hd
    refine run_ret (δ := [some (tI l), some (.int p), none]) rfl (S.cons (S.ife hd (by rw [Bool.not_true, if_neg Bool.false_ne_true]; exact S.nil)) (S.consR (S.ret ?_)))
    rw [Bool.true_and]
    exact E.call (E.aV (E.var rfl) E.aN) rfl (h3 l)
  | false =>
    rw [hb] at hd
    exact run_ret (δ := [some (tI l), some (.int p), none]) rfl (S.consR (S.ife hd (by rw [Bool.not_false, if_pos rfl]; exact S.consR (S.ret E.con))))
/-- what is no tuple -/
def noTup : PD → Bool
  | .tuple _ => false
  | _ => true
theorem numset_no {d : PD} (h : noTup d = true) (p : PD) : drun ψ f_is_number_set [d, p] = .ok (.bool false) [some d, some p] := by
  refine run_ret (δ := [some d, some p, none]) rfl (S.consR (S.ife (k := true) (E.tO (k := true) (δ1 := [some d, some p, none]) (E.tN (k := false) (E.tV (E.isi (E.var rfl)) ?_)) (by rw [if_pos rfl])) (by rw [if_pos rfl]; exact S.consR (S.ret E.con))))
  cases d <;> first | rfl | cases h
/-- a thing: a tuple of ints, or none -/
inductive W where
  | t (l : List Int)
  | o (d : PD)
def W.d : W → PD
  | .t l => tI l
  | .o d => d
def W.ok : W → Prop
  | .t _ => True
  | .o d => noTup d = true
def W.set (p : Int) : W → Bool
  | .t l => nset l p
  | .o _ => false
theorem numset_W (h4 : ∀ (l : List Int) (p : Int), ψ 4 [tI l, .int p] = .ok (.bool (nset l p)) [some (tI l), some (.int p)]) (h4' : ∀ d p, noTup d = true → ψ 4 [d, p] = .ok (.bool false) [some d, some p]) (w : W) (hw : w.ok) (p : Int) : ψ 4 [w.d, .int p] = .ok (.bool (w.set p)) [some w.d, some (.int p)] := by
  cases w with
  | t l => exact h4 l p
  | o d => exact h4' d _ hw
def sus (n : Nat) (ss : List (List Int)) : List Int := (ppl n).filter fun p => ss.all fun s => s.contains p
def quickEl (p e : Int) : W → Bool
  | .t l => nset l p && decide ((l.length : Int) = e)
  | .o _ => false
theorem eqv_one (l : List Int) (f : Int) : cmpD .eq (tI l) (.tuple [.int f]) = some (decide (l = [f])) := by
  have : cmpD .eq (tI l) (tI [f]) = some ((tI l).eqv (tI [f])) := by
    show (if _ then _ else _) = _
    rw [if_pos (by rw [Bool.or_eq_true]; exact .inl (by rw [depth_tI]; rfl))]
  rw [eqv_tI] at this
  exact this
theorem all_t : ∀ {ws : List W} {p e : Int}, (ws.all (quickEl p e)) = true → ∃ ls : List (List Int), ws.map W.d = ls.map tI ∧ ∀ l ∈ ls, nset l p = true ∧ (l.length : Int) = e
  | [], p, e, _ => ⟨[], rfl, fun _ h => by cases h⟩
  | w :: ws, p, e, h => by
    obtain ⟨h1, h2⟩ := and2 (by rw [List.all_cons] at h; exact h)
    obtain ⟨ls, e1, e2⟩ := all_t h2
    cases w with
    | t l =>
      obtain ⟨a, b⟩ := and2 h1
      refine ⟨l :: ls, by rw [List.map_cons, List.map_cons, e1]; rfl, fun m hm => ?_⟩
      rcases List.mem_cons.mp hm with rfl | hm
      · exact ⟨a, of_decide_eq_true b⟩
      · exact e2 m hm
    | o d => cases h1
theorem setsIs_tup (ls : List (List Int)) : SetsIs (.tuple (ls.map tI)) ls := ⟨tI, fun _ _ => rfl, rfl⟩
theorem setsIs_lst (ls : List (List Int)) : SetsIs (.list (ls.map tI)) ls := ⟨tI, fun _ _ => rfl, rfl⟩
/-- the test of is_quick -/
theorem quick_test {n : Nat} {f e : Int} {ws : List W} (h4 : ∀ w ∈ ws, ψ 4 [w.d, .int n] = .ok (.bool (w.set n)) [some w.d, some (.int n)]) :
    dt ψ (.or (.not (.val (.isi (.var 3) [.tuple]))) (.not (.val (.bi .all (.cons (.comp (.and (.call 4 [] (.cons (.var 4) (.cons (.var 0) .nil))) (.cmp .eq (.bi .len (.cons (.var 4) .nil)) (.var 2))) [4] (.name 4) (.seq (.var 3)) .yes) .nil))))) [some (.int n), some (.int f), some (.int e), some (.tuple (ws.map W.d)), none] = .ok (!(ws.all (quickEl n e))) [some (.int n), some (.int f), some (.int e), some (.tuple (ws.map W.d)), none] := by
  refine E.tO (k := false) (δ1 := [some (.int n), some (.int f), some (.int e), some (.tuple (ws.map W.d)), none]) (E.tN (k := true) (E.tV (E.isi (E.var rfl)) rfl)) ?_
  rw [if_neg Bool.false_ne_true]
  refine E.tN (E.tV (d := .bool (ws.all (quickEl n e))) ?_ rfl)
  refine E.bi (ds := [.list ((ws.filter fun _ => true).map fun w => .bool (quickEl n e w))]) (E.cons ?_ E.nil) (all_map_bool _ _)
  refine E.compL _ (E.iS (E.var rfl) rfl) ?_
  refine comp_enc (enc := W.d) (p := fun _ => true) (f := fun w => .bool (quickEl n e w)) (Δ := fun w => [some (.int n), some (.int f), some (.int e), some (.tuple (ws.map W.d)), some w.d]) rfl (by decide) (fun _ _ => rfl) (fun _ _ => rfl) (fun _ _ => rfl) rfl (fun _ _ => rfl) (fun w hw _ => ?_)
  refine E.and (k := w.set n) (d := .bool (w.set n)) (δ1 := [some (.int n), some (.int f), some (.int e), some (.tuple (ws.map W.d)), some w.d]) (E.call (E.aV (E.var rfl) (E.aV (E.var rfl) E.aN)) rfl (h4 w hw)) rfl ?_
  cases w with
  | t l =>
    show (if nset l n = true then _ else DOut.ok (PyData.bool (nset l n)) _) = DOut.ok (PyData.bool (nset l n && decide ((l.length : Int) = e))) _
    cases nset l n with
    | true =>
      rw [if_pos rfl, Bool.true_and]
      refine E.cmp (E.bi (r := .int l.length) (E.cons (E.var rfl) E.nil) (by show some (PyData.int (List.map _ _).length) = _; rw [List.length_map])) (E.var rfl) ?_
      rw [ceq_int]
      rfl
    | false => rfl
  | o d => rfl
theorem quick_no {n : Nat} {f e : Int} {d : PD} (h : noTup d = true) : drun ψ f_is_quick [.int n, .int f, .int e, d] = .ok (.bool false) [some (.int n), some (.int f), some (.int e), some d] := by
  refine run_ret (δ := [some (.int n), some (.int f), some (.int e), some d, none]) rfl (S.consR (S.ife (k := true) (E.tO (k := true) (δ1 := [some (.int n), some (.int f), some (.int e), some d, none]) (E.tN (k := false) (E.tV (E.isi (E.var rfl)) ?_)) (by rw [if_pos rfl])) (by rw [if_pos rfl]; exact S.consR (S.ret E.con))))
  cases d <;> first | rfl | cases h
theorem quick_false {n : Nat} {f e : Int} {ws : List W} (h4 : ∀ w ∈ ws, ψ 4 [w.d, .int n] = .ok (.bool (w.set n)) [some w.d, some (.int n)]) (hf : ∃ w ∈ ws, quickEl n e w = false) :
    drun ψ f_is_quick [.int n, .int f, .int e, .tuple (ws.map W.d)] = .ok (.bool false) [some (.int n), some (.int f), some (.int e), some (.tuple (ws.map W.d))] := by
  have t := quick_test (ψ := ψ) (n := n) (f := f) (e := e) h4
  have hb : ws.all (quickEl n e) = false := by
    rw [Bool.eq_false_iff]
    intro z
    obtain ⟨w, hw, q⟩ := hf
    have := List.all_eq_true.mp z w hw
    rw [q] at this; cases this
  rw [hb] at t
  exact run_ret (δ := [some (.int n), some (.int f), some (.int e), some (.tuple (ws.map W.d)), none]) rfl (S.consR (S.ife t (by rw [Bool.not_false, if_pos rfl]; exact S.consR (S.ret E.con))))
theorem quick_t {n : Nat} {f e : Int} {ls : List (List Int)} (h4 : ∀ l ∈ ls, ψ 4 [tI l, .int n] = .ok (.bool (nset l n)) [some (tI l), some (.int n)])
    (h5 : ψ 5 [.int n, .tuple (ls.map tI)] = .ok (tI (sus n ls)) [some (.int n), some (.tuple (ls.map tI))]) :
    drun ψ f_is_quick [.int n, .int f, .int e, .tuple (ls.map tI)] = .ok (.bool ((ls.all fun l => nset l n && decide ((l.length : Int) = e)) && decide (sus n ls = [f]))) [some (.int n), some (.int f), some (.int e), some (.tuple (ls.map tI))] := by
  have ew : ls.map tI = (ls.map W.t).map W.d := by rw [List.map_map]; rfl
  have h4' : ∀ w ∈ ls.map W.t, ψ 4 [w.d, .int n] = .ok (.bool (w.set n)) [some w.d, some (.int n)] := fun w hw => by
    obtain ⟨l, hl, rfl⟩ := List.mem_map.mp hw
    exact h4 l hl
  have t := quick_test (ψ := ψ) (n := n) (f := f) (e := e) h4'
  rw [← ew] at t
  have eb : (ls.map W.t).all (quickEl n e) = ls.all fun l => nset l n && decide ((l.length : Int) = e) := by rw [List.all_map]; rfl
  rw [eb] at t
  cases hb : ls.all fun l => nset l n && decide ((l.length : Int) = e) with
  | false =>
    rw [hb] at t
    exact run_ret (δ := [some (.int n), some (.int f), some (.int e), some (.tuple (ls.map tI)), none]) rfl (S.consR (S.ife t (by rw [Bool.not_false, if_pos rfl]; exact S.consR (S.ret E.con))))
  | true =>
    rw [hb] at t
    refine run_ret (δ := [some (.int n), some (.int f), some (.int e), some (.tuple (ls.map tI)), none]) rfl (S.cons (S.ife t (by rw [Bool.not_true, if_neg Bool.false_ne_true]; exact S.nil)) (S.consR (S.ret ?_)))
    rw [Bool.true_and]
    exact E.cmp (E.call (E.aV (E.var rfl) (E.aV (E.var rfl) E.aN)) rfl h5) (E.tup (E.cons (E.var rfl) E.nil)) (eqv_one _ _)
end
end K32

namespace Gn
def CSs.tk : Nat → CSs → CSs
  | 0, _ => .nil
  | _ + 1, .nil => .nil
  | n + 1, .cons s ss => .cons s (CSs.tk n ss)
def CSs.dp : Nat → CSs → CSs
  | 0, ss => ss
  | _ + 1, .nil => .nil
  | n + 1, .cons _ ss => CSs.dp n ss
theorem dxs_nil {ψ : DFns} {δ δ1 : DEnv} {f : DFl} (h : dxs ψ .nil δ = .ok f δ1) : f = .next ∧ δ1 = δ := by
  have e : DOut.ok DFl.next δ = DOut.ok f δ1 := h
  injection e with e1 e2
  exact ⟨e1.symm, e2.symm⟩
theorem dxs_tk {ψ : DFns} : ∀ (n : Nat) (ss : CSs) (δ δ1 : DEnv), dxs ψ (ss.tk n) δ = .ok .next δ1 → dxs ψ ss δ = dxs ψ (ss.dp n) δ1
  | 0, ss, δ, δ1, h => by
    rw [(dxs_nil h).2]; rfl
  | n + 1, .nil, δ, δ1, h => by
    rw [(dxs_nil h).2]; rfl
  | n + 1, .cons s ss, δ, δ1, h => by
    simp only [CSs.tk, dxs] at h ⊢
    obtain ⟨f, δ2, h1, h2⟩ := DM.bind_ok h
    cases f with
    | next =>
      rw [DM.bind_ap h1]
      exact dxs_tk n ss δ2 δ1 h2
    | _ => cases h2
theorem dxs_tk_ret {ψ : DFns} {x : PD} : ∀ (n : Nat) (ss : CSs) (δ δ1 : DEnv), dxs ψ (ss.tk n) δ = .ok (.ret x) δ1 → dxs ψ ss δ = .ok (.ret x) δ1
  | 0, ss, δ, δ1, h => by cases (dxs_nil h).1
  | n + 1, .nil, δ, δ1, h => by cases (dxs_nil h).1
  | n + 1, .cons s ss, δ, δ1, h => by
    simp only [CSs.tk, dxs] at h ⊢
    obtain ⟨f, δ2, h1, h2⟩ := DM.bind_ok h
    rw [DM.bind_ap h1]
    cases f with
    | next => exact dxs_tk_ret n ss δ2 δ1 h2
    | brk => cases h2
    | cont => cases h2
    | ret d => exact h2
end Gn
namespace K32
open Gn PySem
abbrev qb : CSs := f__law_quick_right.body
def segB : CSs := (qb.dp 1).tk 2
def segD : CSs := (qb.dp 4).tk 9
def ψ8 : DFns := dfn T 22
def envB (p e : Nat) : DEnv := [none, some (.int p), some (.int e)] ++ List.replicate 17 none
def intIs (x : Option PD) (n : Nat) : Bool := match x with
  | some (.int i) => i == (n : Int)
  | _ => false
/-- rows of ints -/
def rowsOf : Option PD → Option (List (List Int))
  | some (.list xs) => xs.mapM fun x => match x with
    | .tuple ys => intsD ys
    | _ => none
  | _ => none
def good (p e f : Nat) (δ : DEnv) : Bool := intIs (getD' δ 1) p && intIs (getD' δ 2) e && intIs (getD' δ 4) f && decide (1 ≤ e) && decide (e ≤ p) && (decide (e < p) || decide (p = 1)) && (match rowsOf (getD' δ 8) with
  | some R => R.all (fun r => nset r p && decide (r.length = e) && r.contains (f : Int)) && decide (sus p R = [(f : Int)]) && decide (R.length + 1 = p)
  | none => false)
def chk (p e f : Nat) : Bool := match dxs ψ8 segB (envB p e) with
  | .ok .next δB => (match dxs ψ8 segD (δB.set 4 (some (.int f))) with
    | .ok .next δD => good p e f δD
    | .ok (.ret (.bool true)) _ => true
    | _ => false)
  | _ => false
theorem chk1_1 : ((List.range 1).all fun f => chk 1 1 f) = true := by decide +kernel
theorem chk1_2 : ((List.range 1).all fun f => chk 1 2 f) = true := by decide +kernel
theorem chk1_3 : ((List.range 1).all fun f => chk 1 3 f) = true := by decide +kernel
theorem chk1_4 : ((List.range 1).all fun f => chk 1 4 f) = true := by decide +kernel
theorem chk1_5 : ((List.range 1).all fun f => chk 1 5 f) = true := by decide +kernel
theorem chk1_6 : ((List.range 1).all fun f => chk 1 6 f) = true := by decide +kernel
theorem chk1_7 : ((List.range 1).all fun f => chk 1 7 f) = true := by decide +kernel
theorem chk1_8 : ((List.range 1).all fun f => chk 1 8 f) = true := by decide +kernel
theorem chk1_9 : ((List.range 1).all fun f => chk 1 9 f) = true := by decide +kernel
theorem chk2_1 : ((List.range 2).all fun f => chk 2 1 f) = true := by decide +kernel
theorem chk2_2 : ((List.range 2).all fun f => chk 2 2 f) = true := by decide +kernel
theorem chk2_3 : ((List.range 2).all fun f => chk 2 3 f) = true := by decide +kernel
theorem chk2_4 : ((List.range 2).all fun f => chk 2 4 f) = true := by decide +kernel
theorem chk2_5 : ((List.range 2).all fun f => chk 2 5 f) = true := by decide +kernel
theorem chk2_6 : ((List.range 2).all fun f => chk 2 6 f) = true := by decide +kernel
theorem chk2_7 : ((List.range 2).all fun f => chk 2 7 f) = true := by decide +kernel
theorem chk2_8 : ((List.range 2).all fun f => chk 2 8 f) = true := by decide +kernel
theorem chk2_9 : ((List.range 2).all fun f => chk 2 9 f) = true := by decide +kernel
theorem chk3_1 : ((List.range 3).all fun f => chk 3 1 f) = true := by decide +kernel
theorem chk3_2 : ((List.range 3).all fun f => chk 3 2 f) = true := by decide +kernel
theorem chk3_3 : ((List.range 3).all fun f => chk 3 3 f) = true := by decide +kernel
theorem chk3_4 : ((List.range 3).all fun f => chk 3 4 f) = true := by decide +kernel
theorem chk3_5 : ((List.range 3).all fun f => chk 3 5 f) = true := by decide +kernel
theorem chk3_6 : ((List.range 3).all fun f => chk 3 6 f) = true := by decide +kernel
theorem chk3_7 : ((List.range 3).all fun f => chk 3 7 f) = true := by decide +kernel
theorem chk3_8 : ((List.range 3).all fun f => chk 3 8 f) = true := by decide +kernel
theorem chk3_9 : ((List.range 3).all fun f => chk 3 9 f) = true := by decide +kernel
theorem chk4_1 : ((List.range 4).all fun f => chk 4 1 f) = true := by decide +kernel
theorem chk4_2 : ((List.range 4).all fun f => chk 4 2 f) = true := by decide +kernel
theorem chk4_3 : ((List.range 4).all fun f => chk 4 3 f) = true := by decide +kernel
theorem chk4_4 : ((List.range 4).all fun f => chk 4 4 f) = true := by decide +kernel
theorem chk4_5 : ((List.range 4).all fun f => chk 4 5 f) = true := by decide +kernel
theorem chk4_6 : ((List.range 4).all fun f => chk 4 6 f) = true := by decide +kernel
theorem chk4_7 : ((List.range 4).all fun f => chk 4 7 f) = true := by decide +kernel
theorem chk4_8 : ((List.range 4).all fun f => chk 4 8 f) = true := by decide +kernel
theorem chk4_9 : ((List.range 4).all fun f => chk 4 9 f) = true := by decide +kernel
theorem chk5_1 : ((List.range 5).all fun f => chk 5 1 f) = true := by decide +kernel
theorem chk5_2 : ((List.range 5).all fun f => chk 5 2 f) = true := by decide +kernel
theorem chk5_3 : ((List.range 5).all fun f => chk 5 3 f) = true := by decide +kernel
theorem chk5_4 : ((List.range 5).all fun f => chk 5 4 f) = true := by decide +kernel
theorem chk5_5 : ((List.range 5).all fun f => chk 5 5 f) = true := by decide +kernel
theorem chk5_6 : ((List.range 5).all fun f => chk 5 6 f) = true := by decide +kernel
theorem chk5_7 : ((List.range 5).all fun f => chk 5 7 f) = true := by decide +kernel
theorem chk5_8 : ((List.range 5).all fun f => chk 5 8 f) = true := by decide +kernel
theorem chk5_9 : ((List.range 5).all fun f => chk 5 9 f) = true := by decide +kernel
theorem chk6_1 : ((List.range 6).all fun f => chk 6 1 f) = true := by decide +kernel
theorem chk6_2 : ((List.range 6).all fun f => chk 6 2 f) = true := by decide +kernel
theorem chk6_3 : ((List.range 6).all fun f => chk 6 3 f) = true := by decide +kernel
theorem chk6_4 : ((List.range 6).all fun f => chk 6 4 f) = true := by decide +kernel
theorem chk6_5 : ((List.range 6).all fun f => chk 6 5 f) = true := by decide +kernel
theorem chk6_6 : ((List.range 6).all fun f => chk 6 6 f) = true := by decide +kernel
theorem chk6_7 : ((List.range 6).all fun f => chk 6 7 f) = true := by decide +kernel
theorem chk6_8 : ((List.range 6).all fun f => chk 6 8 f) = true := by decide +kernel
theorem chk6_9 : ((List.range 6).all fun f => chk 6 9 f) = true := by decide +kernel
theorem chk7_1 : ((List.range 7).all fun f => chk 7 1 f) = true := by decide +kernel
theorem chk7_2 : ((List.range 7).all fun f => chk 7 2 f) = true := by decide +kernel
theorem chk7_3 : ((List.range 7).all fun f => chk 7 3 f) = true := by decide +kernel
theorem chk7_4 : ((List.range 7).all fun f => chk 7 4 f) = true := by decide +kernel
theorem chk7_5 : ((List.range 7).all fun f => chk 7 5 f) = true := by decide +kernel
theorem chk7_6 : ((List.range 7).all fun f => chk 7 6 f) = true := by decide +kernel
theorem chk7_7 : ((List.range 7).all fun f => chk 7 7 f) = true := by decide +kernel
theorem chk7_8 : ((List.range 7).all fun f => chk 7 8 f) = true := by decide +kernel
theorem chk7_9 : ((List.range 7).all fun f => chk 7 9 f) = true := by decide +kernel
theorem chk8_1 : ((List.range 8).all fun f => chk 8 1 f) = true := by decide +kernel
theorem chk8_2 : ((List.range 8).all fun f => chk 8 2 f) = true := by decide +kernel
theorem chk8_3 : ((List.range 8).all fun f => chk 8 3 f) = true := by decide +kernel
theorem chk8_4 : ((List.range 8).all fun f => chk 8 4 f) = true := by decide +kernel
theorem chk8_5 : ((List.range 8).all fun f => chk 8 5 f) = true := by decide +kernel
theorem chk8_6 : ((List.range 8).all fun f => chk 8 6 f) = true := by decide +kernel
theorem chk8_7 : ((List.range 8).all fun f => chk 8 7 f) = true := by decide +kernel
theorem chk8_8 : ((List.range 8).all fun f => chk 8 8 f) = true := by decide +kernel
theorem chk8_9 : ((List.range 8).all fun f => chk 8 9 f) = true := by decide +kernel
end K32

namespace K32
open Gn PySem
/-! ### the program's functions, at any depth that is enough -/
theorem at0 (k : Nat) (x : Int) : dfn T (k + 1) 0 [.int x] = .ok (.bool true) [some (.int x)] := dfn_run rfl (number_spec x)
theorem at1 (k : Nat) (x : Int) : dfn T (k + 2) 1 [.int x] = .ok (.bool (decide (0 ≤ x))) [some (.int x)] := dfn_run rfl (count_spec (at0 k) x)
theorem at2 (k : Nat) (x p : Int) : dfn T (k + 3) 2 [.int x, .int p] = .ok (.bool (decide (0 ≤ x) && decide (x < p))) [some (.int x), some (.int p)] := dfn_run rfl (below_spec (at1 k) x p)
theorem at3 (k : Nat) (l : List Int) : dfn T (k + 1) 3 [tI l] = .ok (.bool (asc l)) [some (tI l)] := dfn_run rfl (ascends_spec l)
theorem at4 (k : Nat) (l : List Int) (p : Int) : dfn T (k + 4) 4 [tI l, .int p] = .ok (.bool (nset l p)) [some (tI l), some (.int p)] := dfn_run rfl (numset_spec (at2 k) (at3 (k + 2)) l p)
theorem at4' (k : Nat) {d p : PD} (h : noTup d = true) : dfn T (k + 1) 4 [d, p] = .ok (.bool false) [some d, some p] := dfn_run rfl (numset_no h p)
theorem at4W (k : Nat) {w : W} (h : w.ok) (p : Int) : dfn T (k + 4) 4 [w.d, .int p] = .ok (.bool (w.set p)) [some w.d, some (.int p)] := numset_W (fun l p => at4 k l p) (fun d p h => at4' (k + 3) h) w h p
theorem at5 (k : Nat) {n : Nat} (hn : n ≤ SL) {d : PD} {ss : List (List Int)} (h : SetsIs d ss) : dfn T (k + 1) 5 [.int n, d] = .ok (tI (sus n ss)) [some (.int n), some d] := dfn_run rfl (suspects_spec hn h)
theorem at6 (k : Nat) {d : PD} {lot : List Int} {ss : List (List Int)} (h : SetsIs d ss) : dfn T (k + 1) 6 [tI lot, d] = .ok (.bool (meets lot ss)) [some (tI lot), some d] := dfn_run rfl (meets_spec rfl h)
theorem at7 (k : Nat) {n : Nat} (hn : n ≤ 8) {d : PD} {ss : List (List Int)} (h : SetsIs d ss) (m : Int) : dfn T (k + 2) 7 [.int n, d, .int m] = .ok (.list ((lots n m ss).map tI)) [some (.int n), some d, some (.int m)] := dfn_run rfl (lots_spec hn fun s => at6 k h)
theorem at8 (k : Nat) {n : Nat} (hn : n ≤ 8) {d : PD} {ss : List (List Int)} (h : SetsIs d ss) (m : Int) : dfn T (k + 3) 8 [.int n, d, .int m] = .ok (.list (((lots n m ss).filter (bare ss)).map tI)) [some (.int n), some d, some (.int m)] := dfn_run rfl (friend_spec hn (fun s => at6 (k + 1) h) (at7 k hn h m))
theorem at13f (k : Nat) {n : Nat} {f e : Int} {ws : List W} (hw : ∀ w ∈ ws, w.ok) (hf : ∃ w ∈ ws, quickEl n e w = false) : dfn T (k + 5) 13 [.int n, .int f, .int e, .tuple (ws.map W.d)] = .ok (.bool false) [some (.int n), some (.int f), some (.int e), some (.tuple (ws.map W.d))] :=
  dfn_run rfl (quick_false (fun w h => at4W k (hw w h) n) hf)
theorem at13t (k : Nat) {n : Nat} (hn : n ≤ SL) {f e : Int} {ls : List (List Int)} : dfn T (k + 5) 13 [.int n, .int f, .int e, .tuple (ls.map tI)] = .ok (.bool ((ls.all fun l => nset l n && decide ((l.length : Int) = e)) && decide (sus n ls = [f]))) [some (.int n), some (.int f), some (.int e), some (.tuple (ls.map tI))] :=
  dfn_run rfl (quick_t (fun l _ => at4 k l n) (at5 (k + 3) hn (setsIs_tup ls)))
theorem at13n (k : Nat) {n : Nat} {f e : Int} {d : PD} (h : noTup d = true) : dfn T (k + 1) 13 [.int n, .int f, .int e, d] = .ok (.bool false) [some (.int n), some (.int f), some (.int e), some d] := dfn_run rfl (quick_no h)
theorem at15 (k : Nat) : IsTake (dfn T (k + 1)) 15 := fun n t b hn hb b0 b1 => by
  obtain ⟨d, t', e, r⟩ := take_ok (dfn T k) hn hb b0 b1
  exact ⟨d, t', dfn_run (fd := fTake) rfl e, r⟩
theorem at22 (k : Nat) {n : Nat} (hn : n ≤ 8) : dfn T (k + 1) 22 [.int n] = .ok (.list ((ssub n).map tI)) [some (.int n)] := dfn_run rfl (subsets_spec hn)
theorem at23 (k : Nat) {d : PD} {lot : List Int} {ss : List (List Int)} (h : SetsIs d ss) : dfn T (k + 1) 23 [tI lot, d] = .ok (.bool (meets lot ss)) [some (tI lot), some d] := dfn_run rfl (law_meets_spec rfl h)
theorem at24 (k : Nat) {n : Nat} (hn : n ≤ SL) {d : PD} {ss : List (List Int)} (h : SetsIs d ss) : dfn T (k + 1) 24 [.int n, d] = .ok (.list ((sus n ss).map .int)) [some (.int n), some d] := dfn_run rfl (common_spec hn h)
theorem at18 (k : Nat) {n : Nat} {t g : PD} (hb : Box n t) {xs : List PD} (hg : g = .list xs ∨ g = .tuple xs) (h1 : xs.length ≤ SL) {c : Int} (hc : 0 ≤ c) (hn : n + xs.length < 2 ^ 40) :
    ∃ ys zs t', dfn T (k + 2) 18 [t, g, .int c] = .ok (.list ys) [some t', some g, some (.int c)] ∧ (ys ++ zs).Perm xs ∧ ys.length = min c.toNat xs.length ∧ Box (n + xs.length) t' := by
  obtain ⟨ys, zs, t', e, r⟩ := pick_ok (at15 k) hb hg h1 hc hn
  exact ⟨ys, zs, t', dfn_run (fd := fPick 15) rfl e, r⟩
theorem at17 (k : Nat) {n : Nat} (hn : n < 2 ^ 40) {t g : PD} (hb : Box n t) {xs : List PD} (hg : g = .list xs ∨ g = .tuple xs) (h0 : 0 < xs.length) (h1 : xs.length < 1073741824) :
    ∃ d t', dfn T (k + 2) 17 [t, g] = .ok d [some t', some g] ∧ d ∈ xs ∧ Box (n + 1) t' := by
  obtain ⟨d, t', e, r⟩ := of_ok (at15 k) hn hb hg h0 h1
  exact ⟨d, t', dfn_run (fd := fOf 15) rfl e, r⟩
/-! ### wrong ones -/
theorem nset_asc {l : List Int} {p : Int} (h : nset l p = true) : asc l = true := (and2 h).2
theorem nset_mem {l : List Int} {n : Nat} (h : nset l n = true) {x : Int} (hx : x ∈ l) : x ∈ ppl n := by
  have := List.all_eq_true.mp (and2 h).1 x hx
  obtain ⟨a, b⟩ := and2 this
  have a := of_decide_eq_true a
  have b := of_decide_eq_true b
  exact List.mem_map.mpr ⟨x.toNat, List.mem_range.mpr (by omega), by omega⟩
theorem sus_mem {n : Nat} {ss : List (List Int)} {x : Int} (h : x ∈ ppl n) (hs : ∀ s ∈ ss, x ∈ s) : x ∈ sus n ss := List.mem_filter.mpr ⟨h, List.all_eq_true.mpr fun s q => by
  rw [List.contains_iff_mem]; exact hs s q⟩
/-- one set of two or more: more than one has it -/
theorem sus_two {n : Nat} {r : List Int} {f : Int} {ss : List (List Int)} (hr : nset r n = true) (h2 : 2 ≤ r.length) (hs : ∀ s ∈ ss, s = r) : sus n ss ≠ [f] := fun e => by
  match r, h2, hr, hs with
  | a :: b :: r, _, hr, hs =>
    have lt : a < b := by
      have := nset_asc hr
      simp only [asc, Bool.and_eq_true, decide_eq_true_eq] at this
      exact this.1
    have ha : a ∈ sus n ss := sus_mem (nset_mem hr (List.mem_cons_self ..)) fun s q => by rw [hs s q]; exact List.mem_cons_self ..
    have hb : b ∈ sus n ss := sus_mem (nset_mem hr (List.mem_cons_of_mem _ (List.mem_cons_self ..))) fun s q => by rw [hs s q]; exact List.mem_cons_of_mem _ (List.mem_cons_self ..)
    rw [e] at ha hb
    have ha := List.mem_singleton.mp ha
    have hb := List.mem_singleton.mp hb
    omega
theorem sus_not {n : Nat} {f : Int} {ss : List (List Int)} (h : ∃ s ∈ ss, f ∉ s) : sus n ss ≠ [f] := fun e => by
  have : f ∈ sus n ss := by rw [e]; exact List.mem_singleton.mpr rfl
  have := List.all_eq_true.mp (List.mem_filter.mp this).2
  obtain ⟨s, hs, hf⟩ := h
  have := this s hs
  rw [List.contains_iff_mem] at this
  exact hf this
theorem asc_rev {a b : Int} {r : List Int} (h : asc (a :: b :: r) = true) : asc (a :: b :: r).reverse = false := by
  have lt : a < b := by
    simp only [asc, Bool.and_eq_true, decide_eq_true_eq] at h
    exact h.1
  have key : ∀ (l : List Int), asc (l ++ [b, a]) = false := by
    intro l
    induction l with
    | nil =>
      simp only [List.nil_append, asc, Bool.and_true]
      exact decide_eq_false (by omega)
    | cons x l ih =>
      cases l with
      | nil =>
        simp only [List.cons_append, List.nil_append, asc, Bool.and_true]
        have : decide (b < a) = false := decide_eq_false (by omega)
        rw [this, Bool.and_false]
      | cons y l =>
        simp only [List.cons_append, asc] at ih ⊢
        rw [ih, Bool.and_false]
  have : (a :: b :: r).reverse = r.reverse ++ [b, a] := by simp
  rw [this]
  exact key _
theorem sus_perm {n : Nat} {ss ss' : List (List Int)} (h : ss.Perm ss') : sus n ss = sus n ss' := by
  unfold sus
  apply List.filter_congr
  intro x _
  rw [Bool.eq_iff_iff, List.all_eq_true, List.all_eq_true]
  exact ⟨fun q s hs => q s (h.symm.subset hs), fun q s hs => q s (h.subset hs)⟩
/-- sorted ints -/
theorem sorted_ints (l : List Int) : ∃ m : List Int, vd (biD .sorted [.list (l.map .int)]) = some (.list (m.map .int)) ∧ m.Perm l := by
  have hz : cmpAll (l.map PyData.int) = true := by
    unfold cmpAll
    simp only [List.all_eq_true, List.mem_map, Bool.and_eq_true, decide_eq_true_eq, Bool.not_eq_true']
    rintro _ ⟨x, _, rfl⟩
    refine ⟨⟨Nat.zero_le _, rfl⟩, ?_⟩
    rintro _ ⟨y, _, rfl⟩
    rfl
  have p := isort_perm (l.map PyData.int)
  refine ⟨(isort (l.map PyData.int)).map unI, ?_, ?_⟩
  · simp only [biD, sortD, hz, if_true, Option.map_some]
    show some (PyData.list _) = _
    congr 2
    rw [List.map_map]
    conv => lhs; rw [← List.map_id (isort (l.map PyData.int))]
    apply List.map_congr_left
    intro z hz
    obtain ⟨x, _, rfl⟩ := List.mem_map.mp (p.subset hz)
    rfl
  · have q := p.map unI
    rw [List.map_map] at q
    have e : l.map (unI ∘ PyData.int) = l := by
      conv => rhs; rw [← List.map_id l]
      apply List.map_congr_left
      intro x _; rfl
    rw [e] at q
    exact q
end K32

namespace K32
open Gn PySem
def K32.chkF : Bool := match dxs ψ8 (qb.dp 14) [none, some (.int 1), some (.int 1), none, some (.int 0), none, none, none, some (.tuple []), none, none, none, none, none, none, none, none, none, none, none] with
  | .ok (.ret (.bool true)) _ => true
  | _ => false
theorem chkF_ok : K32.chkF = true := by decide +kernel
theorem chkF_use : ∃ δF, dxs ψ8 (qb.dp 14) [none, some (.int 1), some (.int 1), none, some (.int 0), none, none, none, some (.tuple []), none, none, none, none, none, none, none, none, none, none, none] = .ok (.ret (.bool true)) δF := by
  have c := chkF_ok
  unfold K32.chkF at c
  revert c
  generalize dxs ψ8 (qb.dp 14) _ = z
  intro c
  match z, c with
  | .ok (.ret (.bool true)) δ, _ => exact ⟨δ, rfl⟩
theorem chk_all {p e f : Nat} (h1 : 1 ≤ p) (h2 : p ≤ 8) (h3 : 1 ≤ e) (h4 : e ≤ 9) (h5 : f < p) : chk p e f = true := by
  have g : ∀ {q e : Nat}, ((List.range q).all fun f => chk q e f) = true → f < q → chk q e f = true := fun {q e} h hf => List.all_eq_true.mp h f (List.mem_range.mpr hf)
  match p, h1, h2, e, h3, h4 with
  | 1, _, _, 1, _, _ => exact g chk1_1 h5
  | 1, _, _, 2, _, _ => exact g chk1_2 h5
  | 1, _, _, 3, _, _ => exact g chk1_3 h5
  | 1, _, _, 4, _, _ => exact g chk1_4 h5
  | 1, _, _, 5, _, _ => exact g chk1_5 h5
  | 1, _, _, 6, _, _ => exact g chk1_6 h5
  | 1, _, _, 7, _, _ => exact g chk1_7 h5
  | 1, _, _, 8, _, _ => exact g chk1_8 h5
  | 1, _, _, 9, _, _ => exact g chk1_9 h5
  | 2, _, _, 1, _, _ => exact g chk2_1 h5
  | 2, _, _, 2, _, _ => exact g chk2_2 h5
  | 2, _, _, 3, _, _ => exact g chk2_3 h5
  | 2, _, _, 4, _, _ => exact g chk2_4 h5
  | 2, _, _, 5, _, _ => exact g chk2_5 h5
  | 2, _, _, 6, _, _ => exact g chk2_6 h5
  | 2, _, _, 7, _, _ => exact g chk2_7 h5
  | 2, _, _, 8, _, _ => exact g chk2_8 h5
  | 2, _, _, 9, _, _ => exact g chk2_9 h5
  | 3, _, _, 1, _, _ => exact g chk3_1 h5
  | 3, _, _, 2, _, _ => exact g chk3_2 h5
  | 3, _, _, 3, _, _ => exact g chk3_3 h5
  | 3, _, _, 4, _, _ => exact g chk3_4 h5
  | 3, _, _, 5, _, _ => exact g chk3_5 h5
  | 3, _, _, 6, _, _ => exact g chk3_6 h5
  | 3, _, _, 7, _, _ => exact g chk3_7 h5
  | 3, _, _, 8, _, _ => exact g chk3_8 h5
  | 3, _, _, 9, _, _ => exact g chk3_9 h5
  | 4, _, _, 1, _, _ => exact g chk4_1 h5
  | 4, _, _, 2, _, _ => exact g chk4_2 h5
  | 4, _, _, 3, _, _ => exact g chk4_3 h5
  | 4, _, _, 4, _, _ => exact g chk4_4 h5
  | 4, _, _, 5, _, _ => exact g chk4_5 h5
  | 4, _, _, 6, _, _ => exact g chk4_6 h5
  | 4, _, _, 7, _, _ => exact g chk4_7 h5
  | 4, _, _, 8, _, _ => exact g chk4_8 h5
  | 4, _, _, 9, _, _ => exact g chk4_9 h5
  | 5, _, _, 1, _, _ => exact g chk5_1 h5
  | 5, _, _, 2, _, _ => exact g chk5_2 h5
  | 5, _, _, 3, _, _ => exact g chk5_3 h5
  | 5, _, _, 4, _, _ => exact g chk5_4 h5
  | 5, _, _, 5, _, _ => exact g chk5_5 h5
  | 5, _, _, 6, _, _ => exact g chk5_6 h5
  | 5, _, _, 7, _, _ => exact g chk5_7 h5
  | 5, _, _, 8, _, _ => exact g chk5_8 h5
  | 5, _, _, 9, _, _ => exact g chk5_9 h5
  | 6, _, _, 1, _, _ => exact g chk6_1 h5
  | 6, _, _, 2, _, _ => exact g chk6_2 h5
  | 6, _, _, 3, _, _ => exact g chk6_3 h5
  | 6, _, _, 4, _, _ => exact g chk6_4 h5
  | 6, _, _, 5, _, _ => exact g chk6_5 h5
  | 6, _, _, 6, _, _ => exact g chk6_6 h5
  | 6, _, _, 7, _, _ => exact g chk6_7 h5
  | 6, _, _, 8, _, _ => exact g chk6_8 h5
  | 6, _, _, 9, _, _ => exact g chk6_9 h5
  | 7, _, _, 1, _, _ => exact g chk7_1 h5
  | 7, _, _, 2, _, _ => exact g chk7_2 h5
  | 7, _, _, 3, _, _ => exact g chk7_3 h5
  | 7, _, _, 4, _, _ => exact g chk7_4 h5
  | 7, _, _, 5, _, _ => exact g chk7_5 h5
  | 7, _, _, 6, _, _ => exact g chk7_6 h5
  | 7, _, _, 7, _, _ => exact g chk7_7 h5
  | 7, _, _, 8, _, _ => exact g chk7_8 h5
  | 7, _, _, 9, _, _ => exact g chk7_9 h5
  | 8, _, _, 1, _, _ => exact g chk8_1 h5
  | 8, _, _, 2, _, _ => exact g chk8_2 h5
  | 8, _, _, 3, _, _ => exact g chk8_3 h5
  | 8, _, _, 4, _, _ => exact g chk8_4 h5
  | 8, _, _, 5, _, _ => exact g chk8_5 h5
  | 8, _, _, 6, _, _ => exact g chk8_6 h5
  | 8, _, _, 7, _, _ => exact g chk8_7 h5
  | 8, _, _, 8, _, _ => exact g chk8_8 h5
  | 8, _, _, 9, _, _ => exact g chk8_9 h5
theorem list20 {δ : DEnv} (h : δ.length = 20) : ∃ a b c d e f g i j k l m n o p q r s t u, δ = [a, b, c, d, e, f, g, i, j, k, l, m, n, o, p, q, r, s, t, u] := by
  match δ, h with
  | [a, b, c, d, e, f, g, i, j, k, l, m, n, o, p, q, r, s, t, u], _ => exact ⟨a, b, c, d, e, f, g, i, j, k, l, m, n, o, p, q, r, s, t, u, rfl⟩
theorem intsD_eq : ∀ {zs : List PD} {l : List Int}, intsD zs = some l → zs = l.map .int
  | [], l, h => by cases h; rfl
  | z :: zs, l, h => by
    cases z with
    | int i =>
      simp only [intsD] at h
      cases q : intsD zs with
      | none => rw [q] at h; cases h
      | some m =>
        rw [q] at h
        cases h
        rw [intsD_eq q]; rfl
    | _ => cases h
def rowOf : PD → Option (List Int)
  | .tuple ys => intsD ys
  | _ => none
theorem rowOf_eq {d : PD} {l : List Int} (h : rowOf d = some l) : d = tI l := by
  cases d with
  | tuple ys => rw [intsD_eq (show intsD ys = some l from h)]
  | _ => cases h
theorem rowsL_eq : ∀ {xs : List PD} {R : List (List Int)}, xs.mapM rowOf = some R → xs = R.map tI
  | [], R, h => by
    have : R = [] := by simpa using h.symm
    rw [this]; rfl
  | y :: ys, R, h => by
    rw [List.mapM_cons] at h
    cases hz : rowOf y with
    | none => rw [hz] at h; cases h
    | some l =>
      rw [hz] at h
      cases hr : ys.mapM rowOf with
      | none => rw [hr] at h; cases h
      | some R' =>
        rw [hr] at h
        have e : l :: R' = R := by simpa using h
        subst e
        rw [rowsL_eq hr, rowOf_eq hz]; rfl
theorem rowsOf_eq {x : Option PD} {R : List (List Int)} (h : rowsOf x = some R) : x = some (.list (R.map tI)) := by
  match x, h with
  | some (.list xs), h =>
    have h : xs.mapM rowOf = some R := h
    rw [rowsL_eq h]
  | none, h => cases h
  | some .none, h => cases h
  | some (.bool _), h => cases h
  | some (.int _), h => cases h
  | some (.str _), h => cases h
  | some (.tuple _), h => cases h
  | some (.dict _), h => cases h
theorem DLe.nil : DLe [] [] := DLe.rfl'
theorem DLe.cons {x y : Option PD} {δ δ' : DEnv} (h : x = none ∨ x = y) (l : DLe δ δ') : DLe (x :: δ) (y :: δ') := by
  refine ⟨congrArg (· + 1) l.1, fun i d e => ?_⟩
  cases i with
  | zero =>
    have e : x = some d := e
    rcases h with h | h
    · rw [h] at e; cases e
    · show y = some d
      rw [← h, e]
  | succ i =>
    have := l.2 i d
    simpa only [getD', List.getElem?_cons_succ] using this (by simpa only [getD', List.getElem?_cons_succ] using e)
theorem intIs_eq {x : Option PD} {n : Nat} (h : intIs x n = true) : x = some (.int n) := by
  match x, h with
  | some (.int i), h =>
    have : i = (n : Int) := by simpa [intIs] using h
    rw [this]
theorem chk_use {p e f : Nat} (h : chk p e f = true) : ∃ δB, dxs ψ8 segB (envB p e) = .ok .next δB ∧ ((∃ δD, dxs ψ8 segD (δB.set 4 (some (.int f))) = .ok .next δD ∧ good p e f δD = true) ∨ ∃ δD, dxs ψ8 segD (δB.set 4 (some (.int f))) = .ok (.ret (.bool true)) δD) := by
  unfold chk at h
  split at h
  · rename_i δB e1
    refine ⟨δB, e1, ?_⟩
    split at h
    · rename_i δD e2
      exact .inl ⟨δD, e2, h⟩
    · rename_i δD e2
      exact .inr ⟨δD, e2⟩
    · cases h
  · cases h
theorem good_use {p e f : Nat} {δ : DEnv} (h : good p e f δ = true) : getD' δ 1 = some (.int p) ∧ getD' δ 2 = some (.int e) ∧ getD' δ 4 = some (.int f) ∧ 1 ≤ e ∧ e ≤ p ∧ (e < p ∨ p = 1) ∧ ∃ R, getD' δ 8 = some (.list (R.map tI)) ∧ (∀ r ∈ R, nset r p = true ∧ r.length = e ∧ (f : Int) ∈ r) ∧ sus p R = [(f : Int)] ∧ R.length + 1 = p := by
  unfold good at h
  simp only [Bool.and_eq_true, Bool.or_eq_true, decide_eq_true_eq] at h
  obtain ⟨⟨⟨⟨⟨⟨h1, h2⟩, h3⟩, h4⟩, h4'⟩, h5⟩, h6⟩ := h
  refine ⟨intIs_eq h1, intIs_eq h2, intIs_eq h3, h4, h4', h5, ?_⟩
  split at h6
  · rename_i R hR
    simp only [Bool.and_eq_true, decide_eq_true_eq, List.all_eq_true, List.contains_iff_mem] at h6
    obtain ⟨⟨a, b⟩, c⟩ := h6
    exact ⟨R, rowsOf_eq hR, fun r hr => ⟨(a r hr).1.1, (a r hr).1.2, (a r hr).2⟩, b, c⟩
  · cases h6
theorem atI_zero {α : List PD} {x : PD} : L2.atI (x :: α) 0 = some x := by
  unfold L2.atI
  rw [ixN_nat (by decide) (by rw [List.length_cons]; omega)]
  rfl
theorem asc_rev' : ∀ {l : List Int}, asc l = true → 2 ≤ l.length → asc l.reverse = false
  | a :: b :: r, h, _ => asc_rev h
  | [a], _, h => by simp at h
  | [], _, h => by simp at h
theorem cut1 {α : List PD} {x : PD} : cutD (x :: α) none (some 1) = [x] := by
  unfold cutD
  rw [show HT.sIx (x :: α).length (x :: α).length (some 1) = min 1 (x :: α).length from HT.sIx_nat _ _ 1, HT.sIx_none, List.length_cons, Nat.min_eq_left (by omega)]
  rfl
theorem cut2 {α : List PD} {x : PD} : cutD (x :: α) (some 1) none = α := by
  unfold cutD
  rw [show HT.sIx (x :: α).length 0 (some 1) = min 1 (x :: α).length from HT.sIx_nat _ _ 1, HT.sIx_none, List.length_cons, Nat.min_eq_left (by omega)]
  show List.take _ α = α
  rw [List.take_of_length_le (by omega)]
theorem cne_nil (xs : List PD) : cmpD .ne (.tuple xs) (.tuple []) = some (!xs.isEmpty) := by
  have : cmpD .ne (.tuple xs) (.tuple []) = some (!PyData.eqv (.tuple xs) (.tuple [])) := by
    show (if _ then _ else _ : Option Bool).map not = _
    rw [if_pos (by rw [Bool.or_eq_true]; exact .inr (by rfl))]
    rfl
  rw [this]
  cases xs <;> simp [PyData.eqv, PyData.eqvAll]
theorem cne_int (i j : Int) : cmpD .ne (.int i) (.int j) = some (!(i == j)) := by
  show (cmpD .eq (.int i) (.int j)).map not = _
  rw [ceq_int]; rfl
def Bad (p e f : Nat) (w : PD) : Prop := ψ8 13 [.int p, .int f, .int e, w] = .ok (.bool false) [some (.int p), some (.int f), some (.int e), some w]
section
variable {p e f : Nat} {R : List (List Int)}
theorem bad_no {d : PD} (h : noTup d = true) : Bad p e f d := at13n 21 h
theorem bad_end {w : W} (hw : w.ok) (h : quickEl p e w = false) {ls : List (List Int)} : Bad p e f (.tuple (ls.map tI ++ [w.d])) := by
  have q := at13f 17 (n := p) (f := f) (e := e) (ws := ls.map W.t ++ [w]) (fun x hx => by
    rcases List.mem_append.mp hx with hx | hx
    · obtain ⟨l, _, rfl⟩ := List.mem_map.mp hx
      trivial
    · rw [List.mem_singleton.mp hx]; exact hw) ⟨w, List.mem_append_right _ (List.mem_singleton.mpr rfl), h⟩
  have e1 : (ls.map W.t ++ [w]).map W.d = ls.map tI ++ [w.d] := by
    rw [List.map_append, List.map_map]; rfl
  rw [e1] at q
  exact q
theorem bad_first {w : W} (hw : w.ok) (h : quickEl p e w = false) {ls : List (List Int)} : Bad p e f (.tuple (w.d :: ls.map tI)) := by
  have q := at13f 17 (n := p) (f := f) (e := e) (ws := w :: ls.map W.t) (fun x hx => by
    rcases List.mem_cons.mp hx with rfl | hx
    · exact hw
    · obtain ⟨l, _, rfl⟩ := List.mem_map.mp hx
      trivial) ⟨w, List.mem_cons_self .., h⟩
  have e1 : (w :: ls.map W.t).map W.d = w.d :: ls.map tI := by
    rw [List.map_cons, List.map_map]; rfl
  rw [e1] at q
  exact q
theorem bad_sus {ls : List (List Int)} (hp : p ≤ SL) (h : sus p ls ≠ [(f : Int)]) : Bad p e f (.tuple (ls.map tI)) := by
  have q := at13t 17 hp (f := f) (e := e) (ls := ls)
  rw [decide_eq_false h, Bool.and_false] at q
  exact q
end
theorem quick_end {p e f : Nat} (hp : p ≤ 8) (he : 1 ≤ e) (hep : e < p) {R : List (List Int)} {r0 : List Int} {rest : List (List Int)} (hR : R = r0 :: rest) (hr : ∀ r ∈ R, nset r p = true ∧ r.length = e ∧ (f : Int) ∈ r) (hs : sus p R = [(f : Int)]) (hl : R.length ≤ 8)
    {t a3 a5 a6 a7 a9 a10 a11 a12 a13 a14 a15 a16 a17 a18 a19 : Option PD} :
    ∃ δ, dxs ψ8 (qb.dp 14) [t, some (.int p), some (.int e), a3, some (.int f), a5, a6, a7, some (.tuple (R.map tI)), a9, a10, a11, a12, a13, a14, a15, a16, a17, a18, a19] = .ok (.ret (.bool true)) δ := by
  have SLv : 1000 ≤ SL := by decide
  have h0 := hr r0 (by rw [hR]; exact List.mem_cons_self ..)
  have hRm : R.map tI = tI r0 :: rest.map tI := by rw [hR]; rfl
  have hrest : rest.length ≤ 7 := by
    have := congrArg List.length hR
    rw [List.length_cons] at this
    omega
  have good : ψ8 13 [.int p, .int f, .int e, .tuple (R.map tI)] = .ok (.bool true) [some (.int p), some (.int f), some (.int e), some (.tuple (R.map tI))] := by
    have q := at13t 17 (n := p) (by omega) (f := f) (e := e) (ls := R)
    have e1 : (R.all fun l => nset l p && decide ((l.length : Int) = e)) = true := List.all_eq_true.mpr fun l hl => by
      have := hr l hl
      rw [this.1, Bool.true_and]
      exact decide_eq_true (by omega)
    rw [e1, decide_eq_true hs, Bool.true_and] at q
    exact q
  -- the new set
  obtain ⟨s, hsort, hsp⟩ := sorted_ints ((r0.filter fun x => !(x == (f : Int))) ++ ((ppl p).filter fun x => !r0.contains x).take 1)
  have fs : (f : Int) ∉ s := fun h => by
    have := hsp.subset h
    rcases List.mem_append.mp this with h | h
    · have := (List.mem_filter.mp h).2
      simp at this
    · have := (List.mem_filter.mp (List.mem_of_mem_take h)).2
      have := h0.2.2
      simp_all
  have r0len : r0.length ≤ 8 := by omega
  have w1 : Bad p e f (.list (R.map tI)) := bad_no rfl
  have w3 : Bad p e f (.tuple (R.map tI ++ [tI (ppl (e + 1))])) := bad_end (w := .t (ppl (e + 1))) trivial (by
    show (nset (ppl (e + 1)) p && decide (((ppl (e + 1)).length : Int) = (e : Int))) = false
    rw [show decide (((ppl (e + 1)).length : Int) = (e : Int)) = false from decide_eq_false (by rw [ppl, List.length_map, List.length_range]; omega), Bool.and_false])
  have w4 : Bad p e f (.tuple (R.map tI ++ [.tuple []])) := bad_end (w := .t []) trivial (by
    show (nset [] p && decide ((([] : List Int).length : Int) = (e : Int))) = false
    rw [show decide ((([] : List Int).length : Int) = (e : Int)) = false from decide_eq_false (by rw [List.length_nil]; omega), Bool.and_false])
  have w5 : Bad p e f (.tuple (R.map tI ++ [.none])) := bad_end (w := .o .none) rfl rfl
  have w9 : Bad p e f (.tuple (.list (r0.map .int) :: rest.map tI)) := bad_first (w := .o (.list (r0.map .int))) rfl rfl
  have w11 : Bad p e f (.tuple (R.map tI ++ [tI s])) := by
    have : R.map tI ++ [tI s] = (R ++ [s]).map tI := by rw [List.map_append]; rfl
    rw [this]
    exact bad_sus (by omega) (sus_not ⟨s, List.mem_append_right _ (List.mem_singleton.mpr rfl), fs⟩)
  -- those for e above 1
  have w2 : 1 < e → Bad p e f (.tuple [tI r0]) := fun h => bad_sus (ls := [r0]) (by omega) (sus_two h0.1 (by omega) fun s hs => List.mem_singleton.mp hs)
  have w8 : 1 < e → Bad p e f (.tuple (List.replicate 9 [tI r0]).flatten) := fun h => by
    have : (List.replicate 9 [tI r0]).flatten = (List.replicate 9 r0).map tI := rfl
    rw [this]
    exact bad_sus (by omega) (sus_two h0.1 (by omega) fun s hs => List.eq_of_mem_replicate hs)
  have w10 : 1 < e → Bad p e f (.tuple (.tuple (r0.map PyData.int).reverse :: rest.map tI)) := fun h => by
    rw [← List.map_reverse]
    refine bad_first (w := .t r0.reverse) trivial ?_
    show (nset r0.reverse p && decide ((r0.reverse.length : Int) = (e : Int))) = false
    rw [show nset r0.reverse p = false by
      unfold nset
      rw [asc_rev' (nset_asc h0.1) (by omega), Bool.and_false], Bool.false_and]
  -- step by step
  obtain ⟨V2, V8, V10, hV2, hV8, hV10, d2, d8, d10⟩ : ∃ V2 V8 V10 : PD, Bad p e f V2 ∧ Bad p e f V8 ∧ Bad p e f V10 ∧
      (V2 = if (e : Int) - 1 > 0 then .tuple [tI r0] else .none) ∧ (V8 = if (e : Int) > 1 then .tuple (List.replicate 9 [tI r0]).flatten else .none) ∧ (V10 = if (e : Int) > 1 then .tuple (.tuple (r0.map PyData.int).reverse :: rest.map tI) else .none) := by
    by_cases h : 1 < e
    · exact ⟨_, _, _, w2 h, w8 h, w10 h, by rw [if_pos (by omega)], by rw [if_pos (by omega)], by rw [if_pos (by omega)]⟩
    · exact ⟨.none, .none, .none, bad_no rfl, bad_no rfl, bad_no rfl, by rw [if_neg (by omega)], by rw [if_neg (by omega)], by rw [if_neg (by omega)]⟩
  let Wl : List PD := [.list (R.map tI), V2, .tuple (R.map tI ++ [tI (ppl (e + 1))]), .tuple (R.map tI ++ [.tuple []]), .tuple (R.map tI ++ [.none]), .none, .int 0, V8, .tuple (.list (r0.map .int) :: rest.map tI), V10, .tuple (R.map tI ++ [tI s])]
  have hW : ∀ w ∈ Wl, Bad p e f w := by
    intro w hw
    simp only [Wl, List.mem_cons, List.not_mem_nil, or_false] at hw
    rcases hw with rfl | rfl | rfl | rfl | rfl | rfl | rfl | rfl | rfl | rfl | rfl
    · exact w1
    · exact hV2
    · exact w3
    · exact w4
    · exact w5
    · exact bad_no rfl
    · exact bad_no rfl
    · exact hV8
    · exact w9
    · exact hV10
    · exact w11
  have ne8 : ∀ {δ : DEnv}, getD' δ 8 = some (.tuple (R.map tI)) → dt ψ8 (.val (.cmp .ne (.var 8) (.tup .nil))) δ = .ok true δ := fun {δ} h => by
    refine E.tV (E.cmp (E.var h) (E.tup E.nil) (cne_nil _)) ?_
    rw [hRm]; rfl
  have add8 : ∀ {x : PD}, vd (binD .add (.tuple (R.map tI)) (.tuple [x])) = some (.tuple (R.map tI ++ [x])) := fun {x} => add_tup (by simp only [List.length_map, List.length_cons, List.length_nil]; omega)
  have st1 : dx ψ8 (.ife (.not (.val (.call 13 [] (.cons (.var 1) (.cons (.var 4) (.cons (.var 2) (.cons (.var 8) .nil))))))) (.cons (.ret (.con (.bool false))) .nil) .nil) [t, some (.int p), some (.int e), a3, some (.int f), a5, a6, a7, some (.tuple (R.map tI)), a9, a10, a11, a12, a13, a14, a15, a16, a17, a18, a19] = .ok .next [t, some (.int p), some (.int e), a3, some (.int f), a5, a6, a7, some (.tuple (R.map tI)), a9, a10, a11, a12, a13, a14, a15, a16, a17, a18, a19] :=
    S.ife (k := false) (E.tN (k := true) (E.tV (E.call (E.aV (E.var rfl) (E.aV (E.var rfl) (E.aV (E.var rfl) (E.aV (E.var rfl) E.aN)))) rfl good) rfl)) (by rw [if_neg Bool.false_ne_true]; exact S.nil)
  refine ⟨[t, some (.int p), some (.int e), a3, some (.int f), a5, a6, a7, some (.tuple (R.map tI)), a9, a10, a11, a12, a13, a14, a15, a16, a17, some (.list [.list (R.map tI), V2, .tuple (R.map tI ++ [tI (ppl (e + 1))]), .tuple (R.map tI ++ [.tuple []]), .tuple (R.map tI ++ [.none]), .none, .int 0, V8, .tuple (.list (r0.map .int) :: rest.map tI), V10, .tuple (R.map tI ++ [tI s])]), some (.list (((ppl p).filter fun x => !r0.contains x).map .int))], S.cons st1 ?_⟩
  refine S.cons (S.asg (d := .list [.list (R.map tI), V2, .tuple (R.map tI ++ [tI (ppl (e + 1))]), .tuple (R.map tI ++ [.tuple []]), .tuple (R.map tI ++ [.none]), .none, .int 0]) (δ1 := [t, some (.int p), some (.int e), a3, some (.int f), a5, a6, a7, some (.tuple (R.map tI)), a9, a10, a11, a12, a13, a14, a15, a16, a17, a18, a19])
    (E.lst (E.cons (δ1 := [t, some (.int p), some (.int e), a3, some (.int f), a5, a6, a7, some (.tuple (R.map tI)), a9, a10, a11, a12, a13, a14, a15, a16, a17, a18, a19]) (E.bi (E.cons (E.var rfl) E.nil) rfl) (E.cons (δ1 := [t, some (.int p), some (.int e), a3, some (.int f), a5, a6, a7, some (.tuple (R.map tI)), a9, a10, a11, a12, a13, a14, a15, a16, a17, a18, a19]) ?_ (E.cons (δ1 := [t, some (.int p), some (.int e), a3, some (.int f), a5, a6, a7, some (.tuple (R.map tI)), a9, a10, a11, a12, a13, a14, a15, a16, a17, a18, a19]) (E.bin (δ1 := [t, some (.int p), some (.int e), a3, some (.int f), a5, a6, a7, some (.tuple (R.map tI)), a9, a10, a11, a12, a13, a14, a15, a16, a17, a18, a19]) (E.var rfl) (E.tup (E.cons (δ1 := [t, some (.int p), some (.int e), a3, some (.int f), a5, a6, a7, some (.tuple (R.map tI)), a9, a10, a11, a12, a13, a14, a15, a16, a17, a18, a19]) ?_ E.nil)) add8) (E.cons (δ1 := [t, some (.int p), some (.int e), a3, some (.int f), a5, a6, a7, some (.tuple (R.map tI)), a9, a10, a11, a12, a13, a14, a15, a16, a17, a18, a19]) (E.bin (E.var rfl) (E.tup (E.cons (E.tup E.nil) E.nil)) add8) (E.cons (δ1 := [t, some (.int p), some (.int e), a3, some (.int f), a5, a6, a7, some (.tuple (R.map tI)), a9, a10, a11, a12, a13, a14, a15, a16, a17, a18, a19]) (E.bin (E.var rfl) (E.tup (E.cons E.con E.nil)) add8) (E.cons E.con (E.cons E.con E.nil)))))))) rfl) ?_
  · refine E.ite (k := decide ((e : Int) - 1 > 0)) (δ1 := [t, some (.int p), some (.int e), a3, some (.int f), a5, a6, a7, some (.tuple (R.map tI)), a9, a10, a11, a12, a13, a14, a15, a16, a17, a18, a19]) ?_ ?_
    · have c1 : cmpD .lt (.int ((p : Int) - (e : Int))) (.int ((p : Int) - 1)) = some (decide ((e : Int) - 1 > 0)) := by
        rw [lt_int]
        congr 1
        exact decide_eq_decide.mpr (by omega)
      refine E.tA (k := decide ((e : Int) - 1 > 0)) (δ1 := [t, some (.int p), some (.int e), a3, some (.int f), a5, a6, a7, some (.tuple (R.map tI)), a9, a10, a11, a12, a13, a14, a15, a16, a17, a18, a19]) (E.tV (E.cmp (E.bin (E.var rfl) (E.var rfl) rfl) (E.bin (E.var rfl) E.con rfl) c1) rfl) ?_
      by_cases h : (e : Int) - 1 > 0
      · rw [decide_eq_true h, if_pos rfl]
        exact ne8 rfl
      · rw [decide_eq_false h, if_neg Bool.false_ne_true]
    · by_cases h : (e : Int) - 1 > 0
      · rw [decide_eq_true h, if_pos rfl, d2, if_pos h]
        refine E.slc (E.var rfl) E.oN (E.oS E.con) ?_
        show some (PyData.tuple (cutD (R.map tI) none (some 1))) = _
        rw [hRm, cut1]
      · rw [decide_eq_false h, if_neg Bool.false_ne_true, d2, if_neg h]
        exact E.con
  · have q : dei ψ8 (.rng1 (.bin .add (.var 2) (.con (.int 1)))) [t, some (.int p), some (.int e), a3, some (.int f), a5, a6, a7, some (.tuple (R.map tI)), a9, a10, a11, a12, a13, a14, a15, a16, a17, a18, a19] = .ok ((ppl (e + 1)).map .int) [t, some (.int p), some (.int e), a3, some (.int f), a5, a6, a7, some (.tuple (R.map tI)), a9, a10, a11, a12, a13, a14, a15, a16, a17, a18, a19] := by
      have := E.iR (ψ := ψ8) (j := ((e + 1 : Nat) : Int)) (a := .bin .add (.var 2) (.con (.int 1))) (δ := [t, some (.int p), some (.int e), a3, some (.int f), a5, a6, a7, some (.tuple (R.map tI)), a9, a10, a11, a12, a13, a14, a15, a16, a17, a18, a19]) (δ1 := [t, some (.int p), some (.int e), a3, some (.int f), a5, a6, a7, some (.tuple (R.map tI)), a9, a10, a11, a12, a13, a14, a15, a16, a17, a18, a19]) (E.bin (E.var rfl) E.con rfl) (rngOk_small (by omega))
      rw [show (((e + 1 : Nat) : Int)).toNat = e + 1 from rfl, rng_ppl] at this
      exact this
    exact E.tupI q
  · have r8 : ∀ {δ : DEnv}, getD' δ 8 = some (.tuple (R.map tI)) → de ψ8 (.sub (.var 8) (.con (.int 0))) δ = .ok (tI r0) δ := fun {δ} h => E.sub (E.var h) E.con (by rw [hRm]; exact atI_zero)
    have c1 : ∀ {δ : DEnv}, getD' δ 8 = some (.tuple (R.map tI)) → de ψ8 (.slc (.var 8) .none (.some (.con (.int 1)))) δ = .ok (.tuple [tI r0]) δ := fun {δ} h => E.slc (E.var h) E.oN (E.oS E.con) (by
      show some (PyData.tuple (cutD (R.map tI) none (some 1))) = _
      rw [hRm, cut1])
    have c2 : ∀ {δ : DEnv}, getD' δ 8 = some (.tuple (R.map tI)) → de ψ8 (.slc (.var 8) (.some (.con (.int 1))) .none) δ = .ok (.tuple (rest.map tI)) δ := fun {δ} h => E.slc (E.var h) (E.oS E.con) E.oN (by
      show some (PyData.tuple (cutD (R.map tI) (some 1) none)) = _
      rw [hRm, cut2])
    refine S.cons (δ1 := [t, some (.int p), some (.int e), a3, some (.int f), a5, a6, a7, some (.tuple (R.map tI)), a9, a10, a11, a12, a13, a14, a15, a16, a17, some (.list [.list (R.map tI), V2, .tuple (R.map tI ++ [tI (ppl (e + 1))]), .tuple (R.map tI ++ [.tuple []]), .tuple (R.map tI ++ [.none]), .none, .int 0, V8, .tuple (.list (r0.map .int) :: rest.map tI), V10, .tuple (R.map tI ++ [tI s])]), some (.list (((ppl p).filter fun x => !r0.contains x).map .int))]) (S.ife (k := true) (δ1 := [t, some (.int p), some (.int e), a3, some (.int f), a5, a6, a7, some (.tuple (R.map tI)), a9, a10, a11, a12, a13, a14, a15, a16, a17, some (.list [.list (R.map tI), V2, .tuple (R.map tI ++ [tI (ppl (e + 1))]), .tuple (R.map tI ++ [.tuple []]), .tuple (R.map tI ++ [.none]), .none, .int 0]), a19]) (ne8 rfl) ?_) ?_
    · rw [if_pos rfl]
      refine S.cons (S.asg (d := .list (((ppl p).filter fun x => !r0.contains x).map .int)) (δ1 := [t, some (.int p), some (.int e), a3, some (.int f), a5, a6, a7, some (.tuple (R.map tI)), a9, a10, a11, a12, a13, a14, a15, a16, a17, some (.list [.list (R.map tI), V2, .tuple (R.map tI ++ [tI (ppl (e + 1))]), .tuple (R.map tI ++ [.tuple []]), .tuple (R.map tI ++ [.none]), .none, .int 0]), a19]) ?_ rfl) ?_
      · refine E.compL _ (E.iR (E.var rfl) (rngOk_small (by omega))) ?_
        rw [show ((p : Int)).toNat = p from rfl, rng_ppl]
        exact comp_enc (p := fun x => !r0.contains x) (f := PyData.int) (Δ := fun x => [t, some (.int p), some (.int e), a3, some (.int f), a5, a6, a7, some (.tuple (R.map tI)), a9, a10, a11, a12, a13, some (.int x), a15, a16, a17, some (.list [.list (R.map tI), V2, .tuple (R.map tI ++ [tI (ppl (e + 1))]), .tuple (R.map tI ++ [.tuple []]), .tuple (R.map tI ++ [.none]), .none, .int 0]), a19]) rfl (by decide) (fun _ _ => rfl) (fun _ _ => rfl) (fun _ _ => rfl) rfl (fun x _ => E.tV (E.cmp (E.var rfl) (r8 rfl) (notin_int rfl x)) rfl) (fun _ _ _ => E.var rfl)
      · refine S.cons (S.asg (d := .list [.list (R.map tI), V2, .tuple (R.map tI ++ [tI (ppl (e + 1))]), .tuple (R.map tI ++ [.tuple []]), .tuple (R.map tI ++ [.none]), .none, .int 0, V8, .tuple (.list (r0.map .int) :: rest.map tI), V10, .tuple (R.map tI ++ [tI s])]) (δ1 := [t, some (.int p), some (.int e), a3, some (.int f), a5, a6, a7, some (.tuple (R.map tI)), a9, a10, a11, a12, a13, a14, a15, a16, a17, some (.list [.list (R.map tI), V2, .tuple (R.map tI ++ [tI (ppl (e + 1))]), .tuple (R.map tI ++ [.tuple []]), .tuple (R.map tI ++ [.none]), .none, .int 0]), some (.list (((ppl p).filter fun x => !r0.contains x).map .int))]) (E.bin (E.var rfl) (E.lst (ds := [V8, .tuple (.list (r0.map .int) :: rest.map tI), V10, .tuple (R.map tI ++ [tI s])]) ?_) rfl) rfl) S.nil
        refine E.cons (δ1 := [t, some (.int p), some (.int e), a3, some (.int f), a5, a6, a7, some (.tuple (R.map tI)), a9, a10, a11, a12, a13, a14, a15, a16, a17, some (.list [.list (R.map tI), V2, .tuple (R.map tI ++ [tI (ppl (e + 1))]), .tuple (R.map tI ++ [.tuple []]), .tuple (R.map tI ++ [.none]), .none, .int 0]), some (.list (((ppl p).filter fun x => !r0.contains x).map .int))]) ?_ (E.cons (δ1 := [t, some (.int p), some (.int e), a3, some (.int f), a5, a6, a7, some (.tuple (R.map tI)), a9, a10, a11, a12, a13, a14, a15, a16, a17, some (.list [.list (R.map tI), V2, .tuple (R.map tI ++ [tI (ppl (e + 1))]), .tuple (R.map tI ++ [.tuple []]), .tuple (R.map tI ++ [.none]), .none, .int 0]), some (.list (((ppl p).filter fun x => !r0.contains x).map .int))]) ?_ (E.cons (δ1 := [t, some (.int p), some (.int e), a3, some (.int f), a5, a6, a7, some (.tuple (R.map tI)), a9, a10, a11, a12, a13, a14, a15, a16, a17, some (.list [.list (R.map tI), V2, .tuple (R.map tI ++ [tI (ppl (e + 1))]), .tuple (R.map tI ++ [.tuple []]), .tuple (R.map tI ++ [.none]), .none, .int 0]), some (.list (((ppl p).filter fun x => !r0.contains x).map .int))]) ?_ (E.cons (δ1 := [t, some (.int p), some (.int e), a3, some (.int f), a5, a6, a7, some (.tuple (R.map tI)), a9, a10, a11, a12, a13, a14, a15, a16, a17, some (.list [.list (R.map tI), V2, .tuple (R.map tI ++ [tI (ppl (e + 1))]), .tuple (R.map tI ++ [.tuple []]), .tuple (R.map tI ++ [.none]), .none, .int 0]), some (.list (((ppl p).filter fun x => !r0.contains x).map .int))]) ?_ E.nil)))
        · refine E.ite (k := decide ((e : Int) > 1)) (δ1 := [t, some (.int p), some (.int e), a3, some (.int f), a5, a6, a7, some (.tuple (R.map tI)), a9, a10, a11, a12, a13, a14, a15, a16, a17, some (.list [.list (R.map tI), V2, .tuple (R.map tI ++ [tI (ppl (e + 1))]), .tuple (R.map tI ++ [.tuple []]), .tuple (R.map tI ++ [.none]), .none, .int 0]), some (.list (((ppl p).filter fun x => !r0.contains x).map .int))]) (E.tV (E.cmp (E.var rfl) E.con cgt) rfl) ?_
          by_cases h : (e : Int) > 1
          · rw [decide_eq_true h, if_pos rfl, d8, if_pos h]
            exact E.bin (c1 rfl) E.con rfl
          · rw [decide_eq_false h, if_neg Bool.false_ne_true, d8, if_neg h]
            exact E.con
        · refine E.bin (E.tup (E.cons (E.bi (r := .list (r0.map .int)) (E.cons (r8 rfl) E.nil) rfl) E.nil)) (c2 rfl) (add_tup ?_)
          simp only [List.length_map, List.length_cons, List.length_nil]; omega
        · refine E.ite (k := decide ((e : Int) > 1)) (δ1 := [t, some (.int p), some (.int e), a3, some (.int f), a5, a6, a7, some (.tuple (R.map tI)), a9, a10, a11, a12, a13, a14, a15, a16, a17, some (.list [.list (R.map tI), V2, .tuple (R.map tI ++ [tI (ppl (e + 1))]), .tuple (R.map tI ++ [.tuple []]), .tuple (R.map tI ++ [.none]), .none, .int 0]), some (.list (((ppl p).filter fun x => !r0.contains x).map .int))]) (E.tV (E.cmp (E.var rfl) E.con cgt) rfl) ?_
          by_cases h : (e : Int) > 1
          · rw [decide_eq_true h, if_pos rfl, d10, if_pos h]
            refine E.bin (E.tup (E.cons (E.rev (r := .tuple (r0.map PyData.int).reverse) (r8 rfl) rfl) E.nil)) (c2 rfl) (add_tup ?_)
            simp only [List.length_map, List.length_cons, List.length_nil]; omega
          · rw [decide_eq_false h, if_neg Bool.false_ne_true, d10, if_neg h]
            exact E.con
        · refine E.bin (E.var rfl) (E.tup (E.cons (E.bi (r := tI s) (E.cons (E.bi (r := .list (s.map .int)) (E.cons (E.bin (δ1 := [t, some (.int p), some (.int e), a3, some (.int f), a5, a6, a7, some (.tuple (R.map tI)), a9, a10, a11, a12, a13, a14, a15, a16, a17, some (.list [.list (R.map tI), V2, .tuple (R.map tI ++ [tI (ppl (e + 1))]), .tuple (R.map tI ++ [.tuple []]), .tuple (R.map tI ++ [.none]), .none, .int 0]), some (.list (((ppl p).filter fun x => !r0.contains x).map .int))]) (d := .list ((r0.filter fun x => !(x == (f : Int))).map .int)) (e := .list ((((ppl p).filter fun x => !r0.contains x).take 1).map .int)) (r := .list (((r0.filter fun x => !(x == (f : Int))) ++ ((ppl p).filter fun x => !r0.contains x).take 1).map .int)) ?_ ?_ ?_) E.nil) hsort) E.nil) rfl) E.nil)) add8
          · refine E.compL _ (E.iS (r8 rfl) rfl) ?_
            exact comp_enc (p := fun x => !(x == (f : Int))) (f := PyData.int) (Δ := fun x => [t, some (.int p), some (.int e), a3, some (.int f), a5, a6, a7, some (.tuple (R.map tI)), a9, a10, a11, a12, a13, some (.int x), a15, a16, a17, some (.list [.list (R.map tI), V2, .tuple (R.map tI ++ [tI (ppl (e + 1))]), .tuple (R.map tI ++ [.tuple []]), .tuple (R.map tI ++ [.none]), .none, .int 0]), some (.list (((ppl p).filter fun x => !r0.contains x).map .int))]) rfl (by decide) (fun _ _ => rfl) (fun _ _ => rfl) (fun _ _ => rfl) rfl (fun x _ => E.tV (E.cmp (E.var rfl) (E.var rfl) (cne_int _ _)) rfl) (fun _ _ _ => E.var rfl)
          · refine E.slc (E.var rfl) E.oN (E.oS E.con) ?_
            show some (PyData.list (cutD _ none (some 1))) = _
            rw [List.map_take]
            generalize List.map PyData.int ((ppl p).filter fun x => !r0.contains x) = bl
            cases bl with
            | nil => rfl
            | cons b bl => rw [cut1]; rfl
          · rw [add_list (by
              simp only [List.length_map, List.length_take]
              have := List.length_filter_le (fun x => !(x == (f : Int))) r0
              omega), ← List.map_append]
    · refine S.consR (S.ret (E.cmp (d := .list []) (E.comp (E.iS (E.var rfl) rfl) ?_) (E.lst E.nil) (ceq_nil [])))
      have q := comp_pure (own := [6]) (tg := .name 6) (c := dt ψ8 (.val (.call 13 [] (.cons (.var 1) (.cons (.var 4) (.cons (.var 2) (.cons (.var 6) .nil))))))) (el := de ψ8 (.var 6)) (ds := Wl) (δ := [t, some (.int p), some (.int e), a3, some (.int f), a5, a6, a7, some (.tuple (R.map tI)), a9, a10, a11, a12, a13, a14, a15, a16, a17, some (.list [.list (R.map tI), V2, .tuple (R.map tI ++ [tI (ppl (e + 1))]), .tuple (R.map tI ++ [.tuple []]), .tuple (R.map tI ++ [.none]), .none, .int 0, V8, .tuple (.list (r0.map .int) :: rest.map tI), V10, .tuple (R.map tI ++ [tI s])]), some (.list (((ppl p).filter fun x => !r0.contains x).map .int))]) (fun _ => false) id (fun w => [t, some (.int p), some (.int e), a3, some (.int f), a5, some w, a7, some (.tuple (R.map tI)), a9, a10, a11, a12, a13, a14, a15, a16, a17, some (.list [.list (R.map tI), V2, .tuple (R.map tI ++ [tI (ppl (e + 1))]), .tuple (R.map tI ++ [.tuple []]), .tuple (R.map tI ++ [.none]), .none, .int 0, V8, .tuple (.list (r0.map .int) :: rest.map tI), V10, .tuple (R.map tI ++ [tI s])]), some (.list (((ppl p).filter fun x => !r0.contains x).map .int))]) (by decide) (fun _ _ => rfl) (fun _ _ => rfl) (fun _ _ => rfl) rfl
        (fun w hw => E.tV (E.call (E.aV (E.var rfl) (E.aV (E.var rfl) (E.aV (E.var rfl) (E.aV (E.var rfl) E.aN)))) rfl (hW w hw)) rfl) (fun w hw h => nomatch h)
      have e0 : (Wl.filter fun _ => false) = [] := by simp
      rw [e0] at q
      exact q
theorem quick_right {m : Nat} {t : PD} (hb : Box m t) (hm : m < 2 ^ 39) : ∃ outs, dfn T 23 26 [t] = .ok (.bool true) outs := by
  obtain ⟨d1, t1, e1, a1, b1, hb1⟩ := at15 21 m t 8 (by omega) hb (by decide) (by decide)
  obtain ⟨d2, t2, e2, a2, b2, hb2⟩ := at15 21 (m + 1) t1 9 (by omega) hb1 (by decide) (by decide)
  obtain ⟨p, hp⟩ : ∃ p : Nat, 1 + d1 = p := ⟨(1 + d1).toNat, by omega⟩
  obtain ⟨e, he⟩ : ∃ e : Nat, 1 + d2 = e := ⟨(1 + d2).toNat, by omega⟩
  obtain ⟨xs, rfl⟩ := hb.list
  obtain ⟨xs1, rfl⟩ := hb1.list
  obtain ⟨xs2, rfl⟩ := hb2.list
  have s1 : dxs ψ8 qb [some (.list xs), none, none, none, none, none, none, none, none, none, none, none, none, none, none, none, none, none, none, none] = dxs ψ8 (qb.dp 1) ((envB p e).set 0 (some (.list xs2))) := by
    refine dxs_tk 1 qb _ _ (S.cons (S.asg (E.tup (E.cons (E.bin E.con (E.call (E.aR rfl (E.aF E.con E.aN)) rfl e1) (r := .int p) ?_) (E.cons (E.bin E.con (E.call (E.aR rfl (E.aF E.con E.aN)) rfl e2) (r := .int e) ?_) E.nil))) rfl) S.nil)
    · show some (PyData.int (1 + d1)) = _
      rw [hp]
    · show some (PyData.int (1 + d2)) = _
      rw [he]
  have hb2' : Box (m + 1 + 1) (.list xs2) := hb2
  obtain ⟨d3, t3, e3, a3, b3, hb3⟩ := at15 21 (m + 1 + 1) (.list xs2) p (by omega) hb2 (by omega) (by omega)
  obtain ⟨f, hf⟩ : ∃ f : Nat, d3 = f := ⟨d3.toNat, by omega⟩
  subst hf
  obtain ⟨xs3, rfl⟩ := hb3.list
  obtain ⟨δB, hB, hD⟩ := chk_use (chk_all (p := p) (e := e) (f := f) (by omega) (by omega) (by omega) (by omega) (by omega))
  obtain ⟨δB', B1, B2, B3, B4⟩ := lift_one (t := PyData.list xs2) hB (i := 0) (by show 0 < 20; decide) rfl (by decide +kernel)
  have B5 := (frXs (ψ := ψ8) segB _ _ _ hB).2
  have kB : ∀ i, i ∉ asSs segB → getD' δB i = getD' (envB p e) i := B5
  have g1 : getD' δB' 1 = some (.int p) := B2.2 1 _ ((kB 1 (by decide +kernel)).trans rfl)
  have s2 : dxs ψ8 (qb.dp 1) ((envB p e).set 0 (some (.list xs2))) = dxs ψ8 (qb.dp 3) δB' := dxs_tk 2 (qb.dp 1) _ _ B1
  have s3 : dxs ψ8 (qb.dp 3) δB' = dxs ψ8 (qb.dp 4) ((δB'.set 0 (some (.list xs3))).set 4 (some (.int f))) := by
    refine dxs_tk 1 (qb.dp 3) _ _ (S.cons (S.asg (E.call (E.aR B3 (E.aF (E.var g1) E.aN)) (ds := [.list xs2, .int p]) ?_ e3) ?_) S.nil)
    · show daVs δB' [.ref 0, .val (.int p)] = _
      simp only [daVs, daV, B3]
    · show wrD 4 _ (backL δB' [.ref 0, .val (.int p)] [some (.list xs3), some (.int p)]) = _
      simp only [backL, List.headD]
      unfold wrD
      rw [if_pos (by rw [List.length_set, B4]; show 4 < 20; decide)]
  have l4 : DLe (δB.set 4 (some (.int f))) ((δB'.set 0 (some (.list xs3))).set 4 (some (.int f))) := by
    refine DLe.set ?_ fun _ h => h
    refine ⟨by rw [List.length_set]; exact B2.1, fun i d h => ?_⟩
    by_cases q : i = 0
    · subst q
      rw [kB 0 (by decide +kernel)] at h
      cases h
    · rw [getD'_set fun z => q z.symm]
      exact B2.2 i d h
  have len4 : ((δB'.set 0 (some (.list xs3))).set 4 (some (.int f))).length = 20 := by rw [List.length_set, List.length_set, B4]; rfl
  have slot0 : getD' ((δB'.set 0 (some (.list xs3))).set 4 (some (.int f))) 0 = some (.list xs3) := by
    rw [getD'_set (by decide), getD'_set_self (by rw [B4]; show 0 < 20; decide)]
  have fin : ∀ {δ}, dxs ψ8 qb [some (.list xs), none, none, none, none, none, none, none, none, none, none, none, none, none, none, none, none, none, none, none] = .ok (.ret (.bool true)) δ → ∃ outs, dfn T 23 26 [.list xs] = .ok (.bool true) outs := fun {δ} h => ⟨_, dfn_run (fd := f__law_quick_right) rfl (run_ret rfl h)⟩
  rcases hD with ⟨δD, hD, hG⟩ | ⟨δD, hD⟩
  · obtain ⟨δD', D1, D2, D3⟩ := lift_run hD l4
    have s4 : dxs ψ8 (qb.dp 4) ((δB'.set 0 (some (.list xs3))).set 4 (some (.int f))) = dxs ψ8 (qb.dp 13) δD' := dxs_tk 9 (qb.dp 4) _ _ D1
    obtain ⟨q1, q2, q4, he1, hle, hep, R, q8, hr, hsus, hlen⟩ := good_use hG
    have z0 := (D3 0 (by decide +kernel)).trans slot0
    have z1 := D2.2 1 _ q1
    have z2 := D2.2 2 _ q2
    have z4 := D2.2 4 _ q4
    have z8 := D2.2 8 _ q8
    have lD : δD'.length = 20 := (frXs (ψ := ψ8) segD _ _ _ D1).1.trans len4
    obtain ⟨x0, x1, x2, x3, x4, x5, x6, x7, x8, x9, x10, x11, x12, x13, x14, x15, x16, x17, x18, x19, rfl⟩ := list20 lD
    have z0 : x0 = some (.list xs3) := z0
    have z1 : x1 = some (.int p) := z1
    have z2 : x2 = some (.int e) := z2
    have z4 : x4 = some (.int f) := z4
    have z8 : x8 = some (.list (R.map tI)) := z8
    subst z0 z1 z2 z4 z8
    have SLv : 1000 ≤ SL := by decide
    have pl : R.length ≤ 8 := by omega
    obtain ⟨ys, zs, t5, e5, hperm, hy, hb5⟩ := at18 20 hb3 (xs := R.map tI) (g := .list (R.map tI)) (.inl rfl) (by rw [List.length_map]; omega) (c := (R.length : Int)) (by omega) (by rw [List.length_map]; omega)
    have hz : zs = [] := by
      have := hperm.length_eq
      rw [List.length_append, List.length_map] at this
      rw [List.length_map] at hy
      have : zs.length = 0 := by omega
      exact List.eq_nil_of_length_eq_zero this
    subst hz
    rw [List.append_nil] at hperm
    obtain ⟨R', eR, pR⟩ : ∃ R' : List (List Int), ys = R'.map tI ∧ R'.Perm R := by
      refine ⟨ys.map unT, ?_, ?_⟩
      · rw [List.map_map]
        conv => lhs; rw [← List.map_id ys]
        apply List.map_congr_left
        intro y hy
        obtain ⟨l, _, rfl⟩ := List.mem_map.mp (hperm.subset hy)
        show tI l = tI (unT (tI l))
        rw [unT_tI]
      · have := hperm.map unT
        rw [unT_map] at this
        exact this
    subst eR
    have s5 : dxs ψ8 (qb.dp 13) [some (.list xs3), some (.int p), some (.int e), x3, some (.int f), x5, x6, x7, some (.list (R.map tI)), x9, x10, x11, x12, x13, x14, x15, x16, x17, x18, x19] = dxs ψ8 (qb.dp 14) [some t5, some (.int p), some (.int e), x3, some (.int f), x5, x6, x7, some (.tuple (R'.map tI)), x9, x10, x11, x12, x13, x14, x15, x16, x17, x18, x19] := by
      refine dxs_tk 1 (qb.dp 13) _ _ (S.cons (S.asg (E.bi (E.cons (E.call (E.aR rfl (E.aF (E.var rfl) (E.aF (E.bi (r := .int (R.length : Int)) (E.cons (E.var rfl) E.nil) ?_) E.aN))) rfl e5) E.nil) rfl) rfl) S.nil)
      show some (PyData.int (R.map tI).length) = _
      rw [List.length_map]
    rcases hep with hep | hep
    · obtain ⟨r0, rest, hR0⟩ : ∃ r0 rest, R' = r0 :: rest := by
        have := pR.length_eq
        revert this
        generalize R' = R''
        intro this
        cases R'' with
        | nil =>
          simp only [List.length_nil] at this
          omega
        | cons r0 rest => exact ⟨r0, rest, rfl⟩
      obtain ⟨δ, h6⟩ := quick_end (p := p) (e := e) (f := f) (by omega) he1 hep (R := R') hR0 (fun r h => hr r (pR.subset h)) ((sus_perm pR).trans hsus) (by rw [pR.length_eq]; exact pl) (t := some t5) (a3 := x3) (a5 := x5) (a6 := x6) (a7 := x7) (a9 := x9) (a10 := x10) (a11 := x11) (a12 := x12) (a13 := x13) (a14 := x14) (a15 := x15) (a16 := x16) (a17 := x17) (a18 := x18) (a19 := x19)
      exact fin (s1.trans (s2.trans (s3.trans (s4.trans (s5.trans h6)))))
    · subst hep
      have hR0 : R = [] := List.eq_nil_of_length_eq_zero (by omega)
      subst hR0
      have hR0 : R' = [] := List.Perm.eq_nil pR
      subst hR0
      have he0 : e = 1 := by omega
      have hf0 : f = 0 := by omega
      subst he0 hf0
      obtain ⟨δF, eF⟩ := chkF_use
      obtain ⟨δF', F1, _⟩ := lift_run eF (δ' := [some t5, some (.int 1), some (.int 1), x3, some (.int 0), x5, x6, x7, some (.tuple []), x9, x10, x11, x12, x13, x14, x15, x16, x17, x18, x19]) (DLe.cons (.inl rfl) (DLe.cons (.inr rfl) (DLe.cons (.inr rfl) (DLe.cons (.inl rfl) (DLe.cons (.inr rfl) (DLe.cons (.inl rfl) (DLe.cons (.inl rfl) (DLe.cons (.inl rfl) (DLe.cons (.inr rfl) (DLe.cons (.inl rfl) (DLe.cons (.inl rfl) (DLe.cons (.inl rfl) (DLe.cons (.inl rfl) (DLe.cons (.inl rfl) (DLe.cons (.inl rfl) (DLe.cons (.inl rfl) (DLe.cons (.inl rfl) (DLe.cons (.inl rfl) (DLe.cons (.inl rfl) (DLe.cons (.inl rfl) DLe.nil))))))))))))))))))))
      exact fin (s1.trans (s2.trans (s3.trans (s4.trans (s5.trans F1)))))
  · obtain ⟨δD', D1, _⟩ := lift_run hD l4
    exact fin (s1.trans (s2.trans (s3.trans (dxs_tk_ret 9 (qb.dp 4) _ _ D1))))
end K32

namespace K32
open Gn PySem
theorem isin_tI (l : List Int) (xs : List (List Int)) : isinC (tI l) (.list (xs.map tI)) = some (xs.contains l) := by
  unfold isinC
  show (if decide (PyData.depth (tI l) ≤ 60) = true then some ((xs.map tI).any fun z => z.eqv (tI l)) else none) = _
  rw [if_pos (by rw [depth_tI]; rfl), List.any_map]
  congr 1
  induction xs with
  | nil => rfl
  | cons x xs ih =>
    rw [List.any_cons, List.contains_cons, ih]
    congr 1
    show (tI x).eqv (tI l) = _
    rw [eqv_tI]
    by_cases h : x = l
    · subst h; simp
    · rw [decide_eq_false h]
      exact (by simpa using fun e : l = x => h e.symm : (l == x) = false).symm
theorem notin_tI (l : List Int) (xs : List (List Int)) : cmpD .notin (tI l) (.list (xs.map tI)) = some (!xs.contains l) := by
  show (isinC _ _).map not = _
  rw [isin_tI]; rfl
theorem eqvAll_tI : ∀ xs ys : List (List Int), PyData.eqvAll (xs.map tI) (ys.map tI) = decide (xs = ys)
  | [], [] => by simp [PyData.eqvAll]
  | [], _ :: _ => by simp [PyData.eqvAll]
  | _ :: _, [] => by simp [PyData.eqvAll]
  | x :: l, y :: m => by
    rw [List.map_cons, List.map_cons, PyData.eqvAll, eqv_tI, eqvAll_tI l m]
    by_cases h : x = y <;> by_cases h' : l = m <;> simp [h, h']
theorem depth_small {d : PD} {o : COp} {e : PD} (h : e.depth ≤ 60) : eqC d e = some (d.eqv e) := by
  unfold eqC
  rw [if_pos (by rw [Bool.or_eq_true]; exact .inr (decide_eq_true h))]
theorem eq_lots (xs : List (List Int)) (l : List Int) : cmpD .eq (.list (xs.map tI)) (.list [tI l]) = some (decide (xs = [l])) := by
  show eqC _ _ = _
  rw [depth_small (o := .eq) (by
    show PyData.depthAll [tI l] + 1 ≤ 60
    simp only [PyData.depthAll, depth_tI]; decide)]
  have := eqvAll_tI xs [l]
  simp only [PyData.eqv]
  exact congrArg some this
section
variable {ψ : DFns}
/-- sure_of -/
theorem sure_no {n : Nat} {d : PD} {m : Int} (h : ψ 7 [.int n, d, .int m] = .ok (.list (([] : List (List Int)).map tI)) [some (.int n), some d, some (.int m)]) : drun ψ f_sure_of [.int n, d, .int m] = .ex ⟨1, none⟩ := by
  refine run_ex rfl ?_
  refine S.cons (δ1 := [some (.int n), some d, some (.int m), some (.list [])]) (S.asg (E.call (E.aV (E.var rfl) (E.aV (E.var rfl) (E.aV (E.var rfl) E.aN))) rfl h) rfl) ?_
  refine S.consX (S.ife (k := true) (E.tV (E.cmp (E.var rfl) (E.lst E.nil) (ceq_nil _)) rfl) ?_)
  rw [if_pos rfl]
  exact S.consX rfl
theorem sure_yes {n : Nat} {d : PD} {m : Int} {L : List (List Int)} (hL : L ≠ []) (h : ψ 7 [.int n, d, .int m] = .ok (.list (L.map tI)) [some (.int n), some d, some (.int m)]) (h5 : ψ 5 [.int n, .list (L.map tI)] = .ok (tI (sus n L)) [some (.int n), some (.list (L.map tI))]) :
    drun ψ f_sure_of [.int n, d, .int m] = .ok (tI (sus n L)) [some (.int n), some d, some (.int m)] := by
  refine run_ret (δ := [some (.int n), some d, some (.int m), some (.list (L.map tI))]) rfl ?_
  refine S.cons (δ1 := [some (.int n), some d, some (.int m), some (.list (L.map tI))]) (S.asg (E.call (E.aV (E.var rfl) (E.aV (E.var rfl) (E.aV (E.var rfl) E.aN))) rfl h) rfl) ?_
  refine S.cons (S.ife (k := false) (E.tV (E.cmp (k := false) (E.var rfl) (E.lst E.nil) ?_) rfl) (by rw [if_neg Bool.false_ne_true]; exact S.nil)) ?_
  · rw [ceq_nil]
    cases L with
    | nil => exact (hL rfl).elim
    | cons _ _ => rfl
  · exact S.consR (S.ret (E.call (E.aV (E.var rfl) (E.aV (E.var rfl) E.aN)) rfl h5))
/-- what is told -/
theorem S.tryX {δ : DEnv} {b : CSs} {hs : List (Nat × Hr)} {x : Exn} {g : Hr} (h : dxs ψ b δ = .ex x) (hl : hs.lookup x.cls = some g) : dx ψ (.try b hs) δ = .ok (.ret g.pd) δ := by
  unfold dx dtry
  rw [h]
  simp only [hl]
theorem S.tryR {δ δ1 : DEnv} {b : CSs} {hs : List (Nat × Hr)} {r : DFl} (h : dxs ψ b δ = .ok r δ1) : dx ψ (.try b hs) δ = .ok r δ1 := by
  unfold dx dtry
  rw [h]
theorem E.consX1 {δ : DEnv} {a : CE} {es : CEs} {x : Exn} (h : de ψ a δ = .ex x) : des ψ (.cons a es) δ = .ex x := by
  unfold des DM.bind
  rw [h]
theorem E.consX2 {δ δ1 : DEnv} {a : CE} {es : CEs} {d : PD} {x : Exn} (h : de ψ a δ = .ok d δ1) (h2 : des ψ es δ1 = .ex x) : des ψ (.cons a es) δ = .ex x := by
  unfold des
  rw [DM.bind_ap h]
  unfold DM.bind
  rw [h2]
theorem E.lstX {δ : DEnv} {es : CEs} {x : Exn} (h : des ψ es δ = .ex x) : de ψ (.lst es) δ = .ex x := by
  unfold de DM.bind
  rw [h]
theorem heard_no {n : Nat} {d : PD} {m : Int} (h : ψ 9 [.int n, d, .int m] = .ex ⟨1, none⟩) : drun ψ f__law_heard [.int 0, .list [.int n, d, .int m]] = .ok (.list [.str (PySem.Str.ofString "NoPaper"), .bool false]) [some (.int 0), some (.list [.int n, d, .int m])] := by
  refine run_ret (δ := [some (.int 0), some (.list [.int n, d, .int m]), none]) rfl (S.consR (S.tryX (x := ⟨1, none⟩) (g := .lst [(.str (PySem.Str.ofString "NoPaper")), (.bool false)]) ?_ rfl))
  refine S.consX (S.ife (k := true) (δ1 := [some (.int 0), some (.list [.int n, d, .int m]), none]) (E.tV (E.cmp (E.var rfl) E.con (by rw [kci, ceq_int]; rfl)) rfl) ?_)
  rw [if_pos rfl]
  exact S.consX (S.retX (E.lstX (E.consX2 E.con (E.consX1 (E.callX (E.aV (E.sub (E.var rfl) E.con rfl) (E.aV (E.sub (E.var rfl) E.con rfl) (E.aV (E.sub (E.var rfl) E.con rfl) E.aN))) rfl h)))))
theorem heard_yes {n : Nat} {d v : PD} {m : Int} {o : DEnv} (h : ψ 9 [.int n, d, .int m] = .ok v o) : drun ψ f__law_heard [.int 0, .list [.int n, d, .int m]] = .ok (.list [.str (PySem.Str.ofString "told"), v]) [some (.int 0), some (.list [.int n, d, .int m])] := by
  refine run_ret (δ := [some (.int 0), some (.list [.int n, d, .int m]), none]) rfl (S.consR (S.tryR ?_))
  refine S.consR (S.ife (k := true) (δ1 := [some (.int 0), some (.list [.int n, d, .int m]), none]) (E.tV (E.cmp (E.var rfl) E.con (by rw [kci, ceq_int]; rfl)) rfl) ?_)
  rw [if_pos rfl]
  exact S.consR (S.ret (E.lst (E.cons E.con (E.cons (E.call (E.aV (E.sub (E.var rfl) E.con rfl) (E.aV (E.sub (E.var rfl) E.con rfl) (E.aV (E.sub (E.var rfl) E.con rfl) E.aN))) rfl h) E.nil))))
/-- is_only -/
theorem only_t {n : Nat} {d : PD} {m : Int} {L : List (List Int)} {l : List Int} (h4 : ψ 4 [tI l, .int n] = .ok (.bool (nset l n)) [some (tI l), some (.int n)]) (h7 : ψ 7 [.int n, d, .int m] = .ok (.list (L.map tI)) [some (.int n), some d, some (.int m)]) :
    drun ψ f_is_only [.int n, d, .int m, tI l] = .ok (.bool (nset l n && decide (L = [l]))) [some (.int n), some d, some (.int m), some (tI l)] := by
  refine run_ret (δ := [some (.int n), some d, some (.int m), some (tI l)]) rfl (S.consR (S.ret (E.and (k := nset l n) (d := .bool (nset l n)) (δ1 := [some (.int n), some d, some (.int m), some (tI l)]) (E.call (E.aV (E.var rfl) (E.aV (E.var rfl) E.aN)) rfl h4) rfl ?_)))
  cases nset l n with
  | true =>
    rw [if_pos rfl, Bool.true_and]
    exact E.cmp (E.call (E.aV (E.var rfl) (E.aV (E.var rfl) (E.aV (E.var rfl) E.aN))) rfl h7) (E.lst (E.cons (E.var rfl) E.nil)) (eq_lots L l)
  | false => rfl
theorem only_no {n : Nat} {d x : PD} {m : Int} (h4 : ψ 4 [x, .int n] = .ok (.bool false) [some x, some (.int n)]) : drun ψ f_is_only [.int n, d, .int m, x] = .ok (.bool false) [some (.int n), some d, some (.int m), some x] := by
  refine run_ret (δ := [some (.int n), some d, some (.int m), some x]) rfl (S.consR (S.ret (E.and (k := false) (d := .bool false) (δ1 := [some (.int n), some d, some (.int m), some x]) (E.call (E.aV (E.var rfl) (E.aV (E.var rfl) E.aN)) rfl h4) rfl ?_)))
  rw [if_neg Bool.false_ne_true]
/-- a bool is no number -/
theorem numset_true (h2 : ∀ p : Int, ψ 2 [.bool true, .int p] = .ok (.bool false) [some (.bool true), some (.int p)]) (p : Int) : drun ψ f_is_number_set [.tuple [.bool true], .int p] = .ok (.bool false) [some (.tuple [.bool true]), some (.int p)] := by
  refine run_ret (δ := [some (.tuple [.bool true]), some (.int p), none]) rfl (S.consR (S.ife (k := true) (E.tO (k := false) (δ1 := [some (.tuple [.bool true]), some (.int p), none]) (E.tN (k := true) (E.tV (E.isi (E.var rfl)) rfl)) ?_) (by rw [if_pos rfl]; exact S.consR (S.ret E.con))))
  rw [if_neg Bool.false_ne_true]
  refine E.tN (k := false) (E.tV (d := .bool false) ?_ rfl)
  refine E.bi (ds := [.list [.bool false]]) (E.cons ?_ E.nil) rfl
  refine E.compL _ (E.iS (E.var rfl) rfl) ?_
  exact comp_enc (enc := id) (xs := [PyData.bool true]) (p := fun _ => true) (f := fun _ => .bool false) (Δ := fun x => [some (.tuple [.bool true]), some (.int p), some x]) rfl (by decide) (fun _ _ => rfl) (fun _ _ => rfl) (fun _ _ => rfl) rfl (fun _ _ => rfl) (fun x hx _ => by
    rw [List.mem_singleton.mp hx]
    exact E.call (E.aV (E.var rfl) (E.aV (E.var rfl) E.aN)) rfl (h2 p))
end
theorem number_true (k : Nat) : dfn T (k + 1) 0 [.bool true] = .ok (.bool false) [some (.bool true)] := dfn_run rfl (by rfl)
theorem count_true (k : Nat) : dfn T (k + 2) 1 [.bool true] = .ok (.bool false) [some (.bool true)] := dfn_run rfl (run_ret (δ := [some (.bool true)]) rfl (S.consR (S.ret (E.and (k := false) (d := .bool false) (δ1 := [some (.bool true)]) (E.call (E.aV (E.var rfl) E.aN) rfl (number_true k)) rfl rfl))))
theorem below_true (k : Nat) (p : Int) : dfn T (k + 3) 2 [.bool true, .int p] = .ok (.bool false) [some (.bool true), some (.int p)] := dfn_run rfl (run_ret (δ := [some (.bool true), some (.int p)]) rfl (S.consR (S.ret (E.and (k := false) (d := .bool false) (δ1 := [some (.bool true), some (.int p)]) (E.call (E.aV (E.var rfl) E.aN) rfl (count_true k)) rfl rfl))))
theorem at4T (k : Nat) (p : Int) : dfn T (k + 4) 4 [.tuple [.bool true], .int p] = .ok (.bool false) [some (.tuple [.bool true]), some (.int p)] := dfn_run rfl (numset_true (below_true k) p)
end K32

namespace K32
open Gn PySem
def lawBody : CSs := match f_law.body with
  | .cons _ (.cons (.for _ _ b) _) => b
  | _ => .nil
abbrev ψ9 : DFns := dfn T 23
theorem listsD_sets (ss : List (List Int)) : listsD (.list (ss.map tI)) = .list (ss.map fun s => .list (s.map .int)) := by
  show PyData.list (listsL _) = _
  rw [listsL_map, List.map_map]
  congr 1
  apply List.map_congr_left
  intro s _
  show PyData.list (listsL (s.map .int)) = _
  rw [listsL_map, List.map_map]
  rfl
theorem setsIs_lists (ss : List (List Int)) : SetsIs (.list (ss.map fun s => .list (s.map .int))) ss := ⟨fun s => .list (s.map .int), fun _ _ => rfl, rfl⟩
theorem plain_ints : ∀ l : List Int, plainL (l.map .int) = true
  | [] => rfl
  | _ :: l => plain_ints l
theorem plain_tI (l : List Int) : plainD (tI l) = true := plain_ints l
theorem plain_map {γ : Type} {f : γ → PD} (h : ∀ x, plainD (f x) = true) : ∀ xs : List γ, plainL (xs.map f) = true
  | [] => rfl
  | x :: xs => by
    rw [List.map_cons]
    show (plainD (f x) && plainL (xs.map f)) = true
    rw [h x, plain_map h xs]; rfl
theorem depth_map {γ : Type} {f : γ → PD} {k : Nat} (h : ∀ x, PyData.depth (f x) ≤ k) : ∀ xs : List γ, PyData.depthAll (xs.map f) ≤ k
  | [] => Nat.zero_le _
  | x :: xs => by
    rw [List.map_cons]
    simp only [PyData.depthAll]
    exact Nat.max_le.mpr ⟨h x, depth_map h xs⟩
theorem at19 {d : PD} (h : plainD d = true) (hd : d.depth ≤ 6) : ψ9 19 [d, d] = .ok (.bool true) [some d, some d] := same_ok (T := T) (i := 19) rfl 16 6 d h hd
theorem at20 {d : PD} (h : plainD d = true) (hd : d.depth ≤ 6) : ψ9 20 [d] = .ok (listsD d) [some d] := lists_ok (T := T) (i := 20) rfl 16 6 d h hd
theorem asc_app : ∀ {l : List Int} {x : Int}, asc l = true → (∀ y ∈ l, y < x) → asc (l ++ [x]) = true
  | [], x, _, _ => rfl
  | [a], x, _, h => by
    show (decide (a < x) && true) = true
    rw [decide_eq_true (h a (List.mem_cons_self ..))]; rfl
  | a :: b :: r, x, h, hx => by
    have h' : (decide (a < b) && asc (b :: r)) = true := h
    obtain ⟨h1, h2⟩ := and2 h'
    show (decide (a < b) && asc ((b :: r) ++ [x])) = true
    rw [h1, asc_app h2 fun y hy => hx y (List.mem_cons_of_mem _ hy)]; rfl
theorem subs_set : ∀ (n : Nat), ∀ s ∈ subs n, asc s = true ∧ ∀ x ∈ s, 0 ≤ x ∧ x < n
  | 0, s, h => by
    simp only [subs, List.mem_singleton] at h
    subst h
    exact ⟨rfl, fun x hx => nomatch hx⟩
  | n + 1, s, h => by
    simp only [subs, List.mem_append, List.mem_map] at h
    rcases h with h | ⟨r, h, rfl⟩
    · obtain ⟨a, b⟩ := subs_set n s h
      exact ⟨a, fun x hx => ⟨(b x hx).1, by have := (b x hx).2; omega⟩⟩
    · obtain ⟨a, b⟩ := subs_set n r h
      refine ⟨asc_app a fun y hy => (b y hy).2, fun x hx => ?_⟩
      rcases List.mem_append.mp hx with hx | hx
      · exact ⟨(b x hx).1, by have := (b x hx).2; omega⟩
      · rw [List.mem_singleton.mp hx]; omega
theorem subs_nset {n : Nat} {s : List Int} (h : s ∈ subs n) : nset s n = true := by
  obtain ⟨a, b⟩ := subs_set n s h
  unfold nset
  rw [a, Bool.and_true, List.all_eq_true]
  intro x hx
  rw [decide_eq_true (b x hx).1, decide_eq_true (b x hx).2]; rfl
/-- what is told of the only one -/
theorem only_right (n : Nat) (m : Int) (ss : List (List Int)) (l : List Int) : (nset l n && decide (lots n m ss = [l])) = decide (lots n m ss = [l]) := by
  by_cases h : lots n m ss = [l]
  · have : l ∈ lots n m ss := by rw [h]; exact List.mem_singleton.mpr rfl
    rw [subs_nset (lots_mem this).1, Bool.true_and]
  · rw [decide_eq_false h, Bool.and_false]
theorem ints_of : ∀ {ys : List PD}, (∀ y ∈ ys, ∃ x : Int, y = .int x) → ∃ l : List Int, ys = l.map .int
  | [], _ => ⟨[], rfl⟩
  | y :: ys, h => by
    obtain ⟨x, rfl⟩ := h y (List.mem_cons_self ..)
    obtain ⟨l, rfl⟩ := ints_of fun z hz => h z (List.mem_cons_of_mem _ hz)
    exact ⟨x :: l, rfl⟩
def appK : CSs := .cons (.expr (.app 4 (.bi .tuple (.cons (.bi .sorted (.cons (.call 18 [true, false, false] (.cons (.var 1) (.cons (.lstI (.rng1 (.var 3))) (.cons (.bin .add (.con (.int 1)) (.call 15 [true, false] (.cons (.var 1) (.cons (.var 3) .nil)))) .nil)))) .nil)) .nil)))) .nil
theorem draw_set {scr t : PD} {q n : Nat} (hb : Box q t) (hq : q < 2 ^ 38) (hn1 : 1 ≤ n) (hn8 : n ≤ 8) {ss : List (List Int)} (hs : ss.length ≤ 100) {x2 x5 x6 x7 x8 x9 x10 x11 x12 x13 x14 : Option PD} :
    ∃ t' s, dxs ψ9 appK [some scr, some t, x2, some (.int n), some (.list (ss.map tI)), x5, x6, x7, x8, x9, x10, x11, x12, x13, x14] = .ok .next [some scr, some t', x2, some (.int n), some (.list ((ss ++ [s]).map tI)), x5, x6, x7, x8, x9, x10, x11, x12, x13, x14] ∧ Box (q + 20) t' := by
  obtain ⟨d, t1, e1, a1, b1, hb1⟩ := at15 22 q t n (by omega) hb (by omega) (by omega)
  obtain ⟨xs, rfl⟩ := hb.list
  have SLv : 1000 ≤ SL := by decide
  have pl : (ppl n).length = n := by rw [ppl, List.length_map, List.length_range]
  obtain ⟨ys, zs, t2, e2, hp, hy, hb2⟩ := at18 21 hb1 (xs := (ppl n).map .int) (g := .list ((ppl n).map .int)) (.inl rfl) (by rw [List.length_map, pl]; omega) (c := 1 + d) (by omega) (by rw [List.length_map, pl]; omega)
  obtain ⟨xs1, rfl⟩ := hb1.list
  obtain ⟨l, rfl⟩ := ints_of (ys := ys) fun y hy => by
    have := hp.subset (List.mem_append_left _ hy)
    obtain ⟨x, _, rfl⟩ := List.mem_map.mp this
    exact ⟨x, rfl⟩
  obtain ⟨s, hs1, hs2⟩ := sorted_ints l
  refine ⟨t2, s, ?_, hb2.mono (by rw [List.length_map, pl]; omega)⟩
  have r : dei ψ9 (.rng1 (.var 3)) [some scr, some (.list xs), x2, some (.int n), some (.list (ss.map tI)), x5, x6, x7, x8, x9, x10, x11, x12, x13, x14] = .ok ((ppl n).map .int) [some scr, some (.list xs), x2, some (.int n), some (.list (ss.map tI)), x5, x6, x7, x8, x9, x10, x11, x12, x13, x14] := by
    have := E.iR (ψ := ψ9) (j := (n : Int)) (a := .var 3) (δ := [some scr, some (.list xs), x2, some (.int n), some (.list (ss.map tI)), x5, x6, x7, x8, x9, x10, x11, x12, x13, x14]) (δ1 := [some scr, some (.list xs), x2, some (.int n), some (.list (ss.map tI)), x5, x6, x7, x8, x9, x10, x11, x12, x13, x14]) (E.var rfl) (rngOk_small (by omega))
    rw [show ((n : Int)).toNat = n from rfl, rng_ppl] at this
    exact this
  have r2 : de ψ9 (.app 4 (.bi .tuple (.cons (.bi .sorted (.cons (.call 18 [true, false, false] (.cons (.var 1) (.cons (.lstI (.rng1 (.var 3))) (.cons (.bin .add (.con (.int 1)) (.call 15 [true, false] (.cons (.var 1) (.cons (.var 3) .nil)))) .nil)))) .nil)) .nil))) [some scr, some (.list xs), x2, some (.int n), some (.list (ss.map tI)), x5, x6, x7, x8, x9, x10, x11, x12, x13, x14] = .ok .none [some scr, some t2, x2, some (.int n), some (.list ((ss ++ [s]).map tI)), x5, x6, x7, x8, x9, x10, x11, x12, x13, x14] := by
    refine (E.app (d := tI s) (δ1 := [some scr, some t2, x2, some (.int n), some (.list (ss.map tI)), x5, x6, x7, x8, x9, x10, x11, x12, x13, x14]) rfl (E.bi (E.cons (E.bi (E.cons (E.call (r := .list (l.map .int)) (E.aR rfl (E.aF (E.lstI r) (E.aF (E.bin E.con (E.call (E.aR rfl (E.aF (E.var rfl) E.aN)) rfl e1) rfl) E.aN))) rfl e2) E.nil) hs1) E.nil) rfl) rfl (by rw [List.length_map]; omega)).trans ?_
    rw [List.map_append]
    rfl
  exact S.cons (S.expr r2) S.nil
theorem lists_at {ss : List (List Int)} {δ : DEnv} (h : getD' δ 4 = some (.list (ss.map tI))) : de ψ9 (.call 20 [] (.cons (.var 4) .nil)) δ = .ok (.list (ss.map fun s => .list (s.map .int))) δ := by
  have q := at20 (d := .list (ss.map tI)) (plain_map plain_tI ss) (by
    simp only [PyData.depth]
    have := depth_map (f := tI) (k := 1) (fun l => by rw [depth_tI]; omega) ss
    omega)
  rw [listsD_sets] at q
  exact E.call (E.aV (E.var h) E.aN) rfl q
section
variable {scr t : PD} {n : Nat} {m : Int} {ss : List (List Int)} {x2 x5 x6 x7 x8 x9 x10 x11 x12 x13 x14 : Option PD}
theorem t7 : de ψ9 (.call 20 [] (.cons (.var 4) .nil)) [some scr, some t, x2, some (.int n), some (.list (ss.map tI)), x5, some (.int m), x7, x8, x9, x10, x11, x12, x13, x14] = .ok (.list (ss.map fun s => .list (s.map .int))) [some scr, some t, x2, some (.int n), some (.list (ss.map tI)), x5, some (.int m), x7, x8, x9, x10, x11, x12, x13, x14] := by
  have q := at20 (d := .list (ss.map tI)) (plain_map plain_tI ss) (by
    simp only [PyData.depth]
    have := depth_map (f := tI) (k := 1) (fun l => by rw [depth_tI]; omega) ss
    omega)
  rw [listsD_sets] at q
  exact E.call (E.aV (E.var rfl) E.aN) rfl q
theorem t8 (hn : n ≤ 8) : de ψ9 (.comp (.var 9) [9] (.name 9) (.seq (.call 22 [] (.cons (.var 3) .nil))) (.and (.val (.cmp .le (.bi .len (.cons (.var 9) .nil)) (.var 6))) (.val (.call 23 [] (.cons (.var 9) (.cons (.var 4) .nil)))))) [some scr, some t, x2, some (.int n), some (.list (ss.map tI)), x5, some (.int m), some (.list (ss.map fun s => .list (s.map .int))), x8, x9, x10, x11, x12, x13, x14] = .ok (.list ((lots n m ss).map tI)) [some scr, some t, x2, some (.int n), some (.list (ss.map tI)), x5, some (.int m), some (.list (ss.map fun s => .list (s.map .int))), x8, x9, x10, x11, x12, x13, x14] := by
  refine E.compL _ (E.iS (E.call (E.aV (E.var rfl) E.aN) rfl (at22 22 hn)) rfl) ?_
  refine comp_enc (enc := tI) (p := fits m ss) (f := tI) (Δ := fun s => [some scr, some t, x2, some (.int n), some (.list (ss.map tI)), x5, some (.int m), some (.list (ss.map fun s => .list (s.map .int))), x8, some (tI s), x10, x11, x12, x13, x14]) rfl (by decide) (fun _ _ => rfl) (fun _ _ => rfl) (fun _ _ => rfl) rfl (fun s _ => ?_) (fun s _ _ => E.var rfl)
  refine E.tA (k := decide ((s.length : Int) ≤ m)) (δ1 := [some scr, some t, x2, some (.int n), some (.list (ss.map tI)), x5, some (.int m), some (.list (ss.map fun s => .list (s.map .int))), x8, some (tI s), x10, x11, x12, x13, x14]) (E.tV (E.cmp (E.bi (r := .int s.length) (E.cons (E.var rfl) E.nil) ?_) (E.var rfl) (le_int _ _)) rfl) ?_
  · show some (PyData.int (s.map PyData.int).length) = _
    rw [List.length_map]
  · unfold fits
    cases decide ((s.length : Int) ≤ m) with
    | true =>
      rw [if_pos rfl]
      exact E.tV (E.call (E.aV (E.var rfl) (E.aV (E.var rfl) E.aN)) rfl (at23 22 (setsIs_lst ss))) rfl
    | false => rfl
theorem t10 (hn : n ≤ 8) : de ψ9 (.comp (.var 9) [9] (.name 9) (.seq (.var 8)) (.val (.cmp .eq (.comp (.var 5) [5] (.name 5) (.rng1 (.bi .len (.cons (.var 9) .nil))) (.val (.call 23 [] (.cons (.bin .add (.slc (.var 9) .none (.some (.var 5))) (.slc (.var 9) (.some (.bin .add (.var 5) (.con (.int 1)))) .none)) (.cons (.var 4) .nil))))) (.lst .nil)))) [some scr, some t, x2, some (.int n), some (.list (ss.map tI)), x5, some (.int m), some (.list (ss.map fun s => .list (s.map .int))), some (.list ((lots n m ss).map tI)), x9, x10, x11, x12, x13, x14] = .ok (.list (((lots n m ss).filter (bare ss)).map tI)) [some scr, some t, x2, some (.int n), some (.list (ss.map tI)), x5, some (.int m), some (.list (ss.map fun s => .list (s.map .int))), some (.list ((lots n m ss).map tI)), x9, x10, x11, x12, x13, x14] := by
  have SLv : 1000 ≤ SL := by decide
  refine E.compL _ (E.iS (E.var rfl) rfl) ?_
  refine comp_enc (enc := tI) (p := bare ss) (f := tI) (Δ := fun s => [some scr, some t, x2, some (.int n), some (.list (ss.map tI)), x5, some (.int m), some (.list (ss.map fun s => .list (s.map .int))), some (.list ((lots n m ss).map tI)), some (tI s), x10, x11, x12, x13, x14]) rfl (by decide) (fun _ _ => rfl) (fun _ _ => rfl) (fun _ _ => rfl) rfl (fun s hs => ?_) (fun s _ _ => E.var rfl)
  have sl : s.length ≤ 8 := Nat.le_trans (subs_short n s (lots_mem hs).1) hn
  refine E.tV (E.cmp (d := .list (((List.range s.length).filter fun i => meets (s.eraseIdx i) ss).map fun (i : Nat) => .int (0 + (i : Int)))) (E.compL _ (E.iR (j := (s.length : Nat)) (E.bi (E.cons (E.var rfl) E.nil) (by show some (PyData.int (List.map _ _).length) = _; rw [List.length_map])) (rngOk_small (by omega))) ?_) (E.lst E.nil) (ceq_nil _)) ?_
  · rw [show ((s.length : Nat) : Int).toNat = s.length from rfl, rngD_map]
    exact comp_enc (enc := fun (i : Nat) => PyData.int (0 + (i : Int))) (p := fun i => meets (s.eraseIdx i) ss) (f := fun (i : Nat) => .int (0 + (i : Int))) (Δ := fun i => [some scr, some t, x2, some (.int n), some (.list (ss.map tI)), some (.int (0 + (i : Int))), some (.int m), some (.list (ss.map fun s => .list (s.map .int))), some (.list ((lots n m ss).map tI)), some (tI s), x10, x11, x12, x13, x14]) rfl (by decide) (fun _ _ => rfl) (fun _ _ => rfl) (fun _ _ => rfl) rfl (fun i hi => E.tV (E.call (E.aV (erase_at (a := .var 0) (b := .var 0) (by omega) (List.mem_range.mp hi) rfl (by show some (PyData.int (0 + (i : Int))) = _; rw [Int.zero_add])) (E.aV (E.var rfl) E.aN)) rfl (at23 22 (setsIs_lst ss))) rfl) (fun i _ _ => E.var rfl)
  · show some ((List.map _ _).isEmpty) = _
    rw [List.isEmpty_map]
    unfold bare
    congr 1
    rw [Bool.eq_iff_iff]
    simp [List.filter_eq_nil_iff]
theorem t11 (hn : n ≤ 8) : de ψ9 (.call 8 [] (.cons (.var 3) (.cons (.var 7) (.cons (.var 6) .nil)))) [some scr, some t, x2, some (.int n), some (.list (ss.map tI)), x5, some (.int m), some (.list (ss.map fun s => .list (s.map .int))), some (.list ((lots n m ss).map tI)), x9, some (.list (((lots n m ss).filter (bare ss)).map tI)), x11, x12, x13, x14] = .ok (.list (((lots n m ss).filter (bare ss)).map tI)) [some scr, some t, x2, some (.int n), some (.list (ss.map tI)), x5, some (.int m), some (.list (ss.map fun s => .list (s.map .int))), some (.list ((lots n m ss).map tI)), x9, some (.list (((lots n m ss).filter (bare ss)).map tI)), x11, x12, x13, x14] :=
  E.call (E.aV (E.var rfl) (E.aV (E.var rfl) (E.aV (E.var rfl) E.aN))) rfl (at8 20 hn (setsIs_lists ss) m)
theorem plain_H (ss : List (List Int)) : plainD (.list (ss.map fun s => PyData.list (s.map .int))) = true := plain_map (f := fun s : List Int => PyData.list (s.map .int)) (fun l => plain_ints l) ss
theorem depth_ls (xs : List (List Int)) : PyData.depth (.list (xs.map tI)) ≤ 2 := by
  simp only [PyData.depth]
  have := depth_map (f := tI) (k := 1) (fun l => by rw [depth_tI]; omega) xs
  omega
theorem depth_H (ss : List (List Int)) : PyData.depth (.list (ss.map fun s => PyData.list (s.map .int))) ≤ 2 := by
  simp only [PyData.depth]
  have := depth_map (f := fun s : List Int => PyData.list (s.map .int)) (k := 1) (fun l => by simp only [PyData.depth, depthAll_ints]; omega) ss
  omega
theorem tS1 (hn : n ≤ 8) : dx ψ9 (.ife (.not (.val (.thaw [11, 4] (.call 19 [] (.cons (.lst (.cons (.var 11) (.cons (.var 7) (.cons (.call 5 [] (.cons (.var 3) (.cons (.call 20 [] (.cons (.var 4) .nil)) .nil))) .nil)))) (.cons (.lst (.cons (.var 10) (.cons (.call 20 [] (.cons (.var 4) .nil)) (.cons (.bi .tuple (.cons (.call 24 [] (.cons (.var 3) (.cons (.var 4) .nil))) .nil)) .nil)))) .nil)))))) (.cons (.ret (.con (.bool false))) .nil) .nil) [some scr, some t, x2, some (.int n), some (.list (ss.map tI)), x5, some (.int m), some (.list (ss.map fun s => .list (s.map .int))), some (.list ((lots n m ss).map tI)), x9, some (.list (((lots n m ss).filter (bare ss)).map tI)), some (.list (((lots n m ss).filter (bare ss)).map tI)), x12, x13, x14] = .ok .next [some scr, some t, x2, some (.int n), some (.list (ss.map tI)), x5, some (.int m), some (.list (ss.map fun s => .list (s.map .int))), some (.list ((lots n m ss).map tI)), x9, some (.list (((lots n m ss).filter (bare ss)).map tI)), some (.list (((lots n m ss).filter (bare ss)).map tI)), x12, x13, x14] := by
  have SLv : 1000 ≤ SL := by decide
  have hd : PyData.depth (.list [.list (((lots n m ss).filter (bare ss)).map tI), .list (ss.map fun s => .list (s.map .int)), tI (sus n ss)]) ≤ 6 := by
    simp only [PyData.depth, PyData.depthAll, depthAll_ints]
    have h1 := depth_map (f := tI) (k := 1) (fun l => by rw [depth_tI]; omega) ((lots n m ss).filter (bare ss))
    have h2 := depth_map (f := fun s : List Int => PyData.list (s.map .int)) (k := 1) (fun l => by simp only [PyData.depth, depthAll_ints]; omega) ss
    omega
  have hp : plainD (.list [.list (((lots n m ss).filter (bare ss)).map tI), .list (ss.map fun s => .list (s.map .int)), tI (sus n ss)]) = true := by
    show (plainL _ && (plainL _ && (plainL _ && true))) = true
    rw [plain_map plain_tI, plain_map (f := fun s : List Int => PyData.list (s.map .int)) (fun l => plain_ints l), plain_ints]; rfl
  refine S.ife (k := false) (E.tN (k := true) (E.tV (E.thaw (E.call (ds := [_, _]) (E.aV (E.lst (E.cons (E.var rfl) (E.cons (E.var rfl) (E.cons (E.call (δ1 := [some scr, some t, x2, some (.int n), some (.list (ss.map tI)), x5, some (.int m), some (.list (ss.map fun s => .list (s.map .int))), some (.list ((lots n m ss).map tI)), x9, some (.list (((lots n m ss).filter (bare ss)).map tI)), some (.list (((lots n m ss).filter (bare ss)).map tI)), x12, x13, x14]) (E.aV (E.var rfl) (E.aV (lists_at rfl) E.aN)) rfl (at5 22 (by omega) (setsIs_lists ss))) E.nil)))) (E.aV (E.lst (E.cons (E.var rfl) (E.cons (δ1 := [some scr, some t, x2, some (.int n), some (.list (ss.map tI)), x5, some (.int m), some (.list (ss.map fun s => .list (s.map .int))), some (.list ((lots n m ss).map tI)), x9, some (.list (((lots n m ss).filter (bare ss)).map tI)), some (.list (((lots n m ss).filter (bare ss)).map tI)), x12, x13, x14]) (lists_at rfl) (E.cons (E.bi (r := tI (sus n ss)) (E.cons (E.call (E.aV (E.var rfl) (E.aV (E.var rfl) E.aN)) rfl (at24 22 (by omega) (setsIs_lst ss))) E.nil) rfl) E.nil)))) E.aN)) rfl (at19 hp hd)) rfl) rfl)) (by rw [if_neg Bool.false_ne_true]; exact S.nil)
end
end K32

namespace K32
open Gn PySem
theorem cne_nilL (xs : List PD) : cmpD .ne (.list xs) (.list []) = some (!xs.isEmpty) := by
  show (cmpD .eq (.list xs) (.list [])).map not = _
  rw [ceq_nil]; rfl
theorem cne_bool (a b : Bool) : cmpD .ne (.bool a) (.bool b) = some (!(a == b)) := by cases a <;> cases b <;> rfl
theorem at9n (k : Nat) {n : Nat} (hn : n ≤ 8) {d : PD} {ss : List (List Int)} (h : SetsIs d ss) {m : Int} (hL : lots n m ss = []) : dfn T (k + 3) 9 [.int n, d, .int m] = .ex ⟨1, none⟩ := dfn_run rfl (sure_no (by
  have := at7 k hn h m
  rw [hL] at this
  exact this))
theorem at9y (k : Nat) {n : Nat} (hn : n ≤ 8) {d : PD} {ss : List (List Int)} (h : SetsIs d ss) {m : Int} (hL : lots n m ss ≠ []) : dfn T (k + 3) 9 [.int n, d, .int m] = .ok (tI (sus n (lots n m ss))) [some (.int n), some d, some (.int m)] := dfn_run rfl (sure_yes hL (at7 k hn h m) (at5 (k + 1) (by
  have : 1000 ≤ SL := by decide
  omega) (setsIs_lst _)))
theorem at21 (k : Nat) {n : Nat} (hn : n ≤ 8) {d : PD} {ss : List (List Int)} (h : SetsIs d ss) {m : Int} : dfn T (k + 4) 21 [.int 0, .list [.int n, d, .int m]] = .ok (if lots n m ss = [] then .list [.str (PySem.Str.ofString "NoPaper"), .bool false] else .list [.str (PySem.Str.ofString "told"), tI (sus n (lots n m ss))]) [some (.int 0), some (.list [.int n, d, .int m])] := by
  by_cases hL : lots n m ss = []
  · rw [if_pos hL]
    exact dfn_run rfl (heard_no (at9n k hn h hL))
  · rw [if_neg hL]
    exact dfn_run rfl (heard_yes (at9y k hn h hL))
section
variable {scr t : PD} {n : Nat} {m : Int} {ss : List (List Int)} {x2 x5 x6 x7 x8 x9 x10 x11 x12 x13 x14 : Option PD}
theorem t12 (hn : n ≤ 8) : de ψ9 (.bi .tuple (.cons (.comp (.var 13) [13] (.name 13) (.rng1 (.var 3)) (.val (.cmp .eq (.comp (.var 9) [9] (.name 9) (.seq (.var 8)) (.val (.cmp .notin (.var 13) (.var 9)))) (.lst .nil)))) .nil)) [some scr, some t, x2, some (.int n), some (.list (ss.map tI)), x5, some (.int m), some (.list (ss.map fun s => .list (s.map .int))), some (.list ((lots n m ss).map tI)), x9, some (.list (((lots n m ss).filter (bare ss)).map tI)), some (.list (((lots n m ss).filter (bare ss)).map tI ++ [.int 0])), x12, x13, x14] = .ok (tI (sus n (lots n m ss))) [some scr, some t, x2, some (.int n), some (.list (ss.map tI)), x5, some (.int m), some (.list (ss.map fun s => .list (s.map .int))), some (.list ((lots n m ss).map tI)), x9, some (.list (((lots n m ss).filter (bare ss)).map tI)), some (.list (((lots n m ss).filter (bare ss)).map tI ++ [.int 0])), x12, x13, x14] := by
  have SLv : 1000 ≤ SL := by decide
  refine E.bi (ds := [.list ((sus n (lots n m ss)).map .int)]) (E.cons ?_ E.nil) rfl
  refine E.compL _ (E.iR (E.var rfl) (rngOk_small (by omega))) ?_
  rw [show ((n : Int)).toNat = n from rfl, rng_ppl]
  refine comp_enc (p := fun p => (lots n m ss).all fun s => s.contains p) (f := PyData.int) (Δ := fun p => [some scr, some t, x2, some (.int n), some (.list (ss.map tI)), x5, some (.int m), some (.list (ss.map fun s => .list (s.map .int))), some (.list ((lots n m ss).map tI)), x9, some (.list (((lots n m ss).filter (bare ss)).map tI)), some (.list (((lots n m ss).filter (bare ss)).map tI ++ [.int 0])), x12, some (.int p), x14]) rfl (by decide) (fun _ _ => rfl) (fun _ _ => rfl) (fun _ _ => rfl) rfl (fun p _ => ?_) (fun p _ _ => E.var rfl)
  refine E.tV (E.cmp (d := .list (((lots n m ss).filter fun s => !s.contains p).map tI)) (E.compL _ (E.iS (E.var rfl) rfl) ?_) (E.lst E.nil) (ceq_nil _)) ?_
  · exact comp_enc (enc := tI) (p := fun s => !s.contains p) (f := tI) (Δ := fun s => [some scr, some t, x2, some (.int n), some (.list (ss.map tI)), x5, some (.int m), some (.list (ss.map fun s => .list (s.map .int))), some (.list ((lots n m ss).map tI)), some (tI s), some (.list (((lots n m ss).filter (bare ss)).map tI)), some (.list (((lots n m ss).filter (bare ss)).map tI ++ [.int 0])), x12, some (.int p), x14]) rfl (by decide) (fun _ _ => rfl) (fun _ _ => rfl) (fun _ _ => rfl) rfl (fun s hs => E.tV (E.cmp (E.var rfl) (E.var rfl) (notin_int rfl p)) rfl) (fun s _ _ => E.var rfl)
  · show some ((List.map tI _).isEmpty) = _
    rw [List.isEmpty_map]
    congr 1
    rw [Bool.eq_iff_iff]
    simp [List.filter_eq_nil_iff]
theorem tup_at {δ : DEnv} (h : getD' δ 4 = some (.list (ss.map tI))) : de ψ9 (.bi .tuple (.cons (.var 4) .nil)) δ = .ok (.tuple (ss.map tI)) δ := E.bi (E.cons (E.var h) E.nil) rfl
theorem fr_at (hn : n ≤ 8) {δ : DEnv} (h3 : getD' δ 3 = some (.int n)) (h : getD' δ 4 = some (.list (ss.map tI))) (h6 : getD' δ 6 = some (.int m)) : de ψ9 (.call 8 [] (.cons (.var 3) (.cons (.bi .tuple (.cons (.var 4) .nil)) (.cons (.var 6) .nil)))) δ = .ok (.list (((lots n m ss).filter (bare ss)).map tI)) δ :=
  E.call (E.aV (E.var h3) (E.aV (tup_at h) (E.aV (E.var h6) E.aN))) rfl (at8 20 hn (setsIs_tup ss) m)
theorem tS2 (hn : n ≤ 8) : dx ψ9 (.ife (.not (.val (.thaw [4] (.call 19 [] (.cons (.lst (.cons (.call 8 [] (.cons (.var 3) (.cons (.bi .tuple (.cons (.var 4) .nil)) (.cons (.var 6) .nil)))) (.cons (.call 21 [] (.cons (.con (.int 0)) (.cons (.lst (.cons (.var 3) (.cons (.call 20 [] (.cons (.var 4) .nil)) (.cons (.var 6) .nil)))) .nil))) .nil))) (.cons (.lst (.cons (.var 10) (.cons (.ite (.val (.cmp .ne (.var 8) (.lst .nil))) (.lst (.cons (.con (.str (PySem.Str.ofString "told"))) (.cons (.var 12) .nil))) (.lst (.cons (.con (.str (PySem.Str.ofString "NoPaper"))) (.cons (.con (.bool false)) .nil)))) .nil))) .nil)))))) (.cons (.ret (.con (.bool false))) .nil) .nil) [some scr, some t, x2, some (.int n), some (.list (ss.map tI)), x5, some (.int m), some (.list (ss.map fun s => .list (s.map .int))), some (.list ((lots n m ss).map tI)), x9, some (.list (((lots n m ss).filter (bare ss)).map tI)), some (.list (((lots n m ss).filter (bare ss)).map tI ++ [.int 0])), some (tI (sus n (lots n m ss))), x13, x14] = .ok .next [some scr, some t, x2, some (.int n), some (.list (ss.map tI)), x5, some (.int m), some (.list (ss.map fun s => .list (s.map .int))), some (.list ((lots n m ss).map tI)), x9, some (.list (((lots n m ss).filter (bare ss)).map tI)), some (.list (((lots n m ss).filter (bare ss)).map tI ++ [.int 0])), some (tI (sus n (lots n m ss))), x13, x14] := by
  have hHV : plainD (if lots n m ss = [] then .list [.str (PySem.Str.ofString "NoPaper"), .bool false] else .list [.str (PySem.Str.ofString "told"), tI (sus n (lots n m ss))]) = true ∧ PyData.depth (if lots n m ss = [] then .list [.str (PySem.Str.ofString "NoPaper"), .bool false] else .list [.str (PySem.Str.ofString "told"), tI (sus n (lots n m ss))]) ≤ 2 := by
    by_cases hL : lots n m ss = []
    · rw [if_pos hL]; exact ⟨rfl, by simp only [PyData.depth, PyData.depthAll]; omega⟩
    · rw [if_neg hL]
      refine ⟨?_, by simp only [PyData.depth, PyData.depthAll, depthAll_ints]; omega⟩
      simp only [plainD, plainL, plain_ints, Bool.and_self]
  have hp : plainD (.list [.list (((lots n m ss).filter (bare ss)).map tI), (if lots n m ss = [] then .list [.str (PySem.Str.ofString "NoPaper"), .bool false] else .list [.str (PySem.Str.ofString "told"), tI (sus n (lots n m ss))])]) = true := by
    show (plainL _ && (plainD _ && true)) = true
    rw [plain_map plain_tI, hHV.1]; rfl
  have hd : PyData.depth (.list [.list (((lots n m ss).filter (bare ss)).map tI), (if lots n m ss = [] then .list [.str (PySem.Str.ofString "NoPaper"), .bool false] else .list [.str (PySem.Str.ofString "told"), tI (sus n (lots n m ss))])]) ≤ 6 := by
    have h1 := depth_ls ((lots n m ss).filter (bare ss))
    have h2 := hHV.2
    show PyData.depthAll _ + 1 ≤ 6
    rw [PyData.depthAll, PyData.depthAll, PyData.depthAll]
    omega
  have ht : de ψ9 (.ite (.val (.cmp .ne (.var 8) (.lst .nil))) (.lst (.cons (.con (.str (PySem.Str.ofString "told"))) (.cons (.var 12) .nil))) (.lst (.cons (.con (.str (PySem.Str.ofString "NoPaper"))) (.cons (.con (.bool false)) .nil)))) [some scr, some t, x2, some (.int n), some (.list (ss.map tI)), x5, some (.int m), some (.list (ss.map fun s => .list (s.map .int))), some (.list ((lots n m ss).map tI)), x9, some (.list (((lots n m ss).filter (bare ss)).map tI)), some (.list (((lots n m ss).filter (bare ss)).map tI ++ [.int 0])), some (tI (sus n (lots n m ss))), x13, x14] = .ok (if lots n m ss = [] then .list [.str (PySem.Str.ofString "NoPaper"), .bool false] else .list [.str (PySem.Str.ofString "told"), tI (sus n (lots n m ss))]) [some scr, some t, x2, some (.int n), some (.list (ss.map tI)), x5, some (.int m), some (.list (ss.map fun s => .list (s.map .int))), some (.list ((lots n m ss).map tI)), x9, some (.list (((lots n m ss).filter (bare ss)).map tI)), some (.list (((lots n m ss).filter (bare ss)).map tI ++ [.int 0])), some (tI (sus n (lots n m ss))), x13, x14] := by
    refine E.ite (k := !(lots n m ss).isEmpty) (δ1 := [some scr, some t, x2, some (.int n), some (.list (ss.map tI)), x5, some (.int m), some (.list (ss.map fun s => .list (s.map .int))), some (.list ((lots n m ss).map tI)), x9, some (.list (((lots n m ss).filter (bare ss)).map tI)), some (.list (((lots n m ss).filter (bare ss)).map tI ++ [.int 0])), some (tI (sus n (lots n m ss))), x13, x14]) (E.tV (E.cmp (E.var rfl) (E.lst E.nil) (cne_nilL _)) (by rw [List.isEmpty_map]; rfl)) ?_
    by_cases hL : lots n m ss = []
    · rw [if_pos hL, hL]
      exact E.lst (E.cons E.con (E.cons E.con E.nil))
    · have : (lots n m ss).isEmpty = false := by
        cases h : lots n m ss with
        | nil => exact (hL h).elim
        | cons _ _ => rfl
      rw [if_neg hL, this]
      exact E.lst (E.cons E.con (E.cons (E.var rfl) E.nil))
  have q21 : ψ9 21 [.int 0, .list [.int n, .list (ss.map fun s => .list (s.map .int)), .int m]] = .ok (if lots n m ss = [] then .list [.str (PySem.Str.ofString "NoPaper"), .bool false] else .list [.str (PySem.Str.ofString "told"), tI (sus n (lots n m ss))]) [some (.int 0), some (.list [.int n, .list (ss.map fun s => .list (s.map .int)), .int m])] := at21 19 hn (setsIs_lists ss)
  have hh : de ψ9 (.call 21 [] (.cons (.con (.int 0)) (.cons (.lst (.cons (.var 3) (.cons (.call 20 [] (.cons (.var 4) .nil)) (.cons (.var 6) .nil)))) .nil))) [some scr, some t, x2, some (.int n), some (.list (ss.map tI)), x5, some (.int m), some (.list (ss.map fun s => .list (s.map .int))), some (.list ((lots n m ss).map tI)), x9, some (.list (((lots n m ss).filter (bare ss)).map tI)), some (.list (((lots n m ss).filter (bare ss)).map tI ++ [.int 0])), some (tI (sus n (lots n m ss))), x13, x14] = .ok (if lots n m ss = [] then .list [.str (PySem.Str.ofString "NoPaper"), .bool false] else .list [.str (PySem.Str.ofString "told"), tI (sus n (lots n m ss))]) [some scr, some t, x2, some (.int n), some (.list (ss.map tI)), x5, some (.int m), some (.list (ss.map fun s => .list (s.map .int))), some (.list ((lots n m ss).map tI)), x9, some (.list (((lots n m ss).filter (bare ss)).map tI)), some (.list (((lots n m ss).filter (bare ss)).map tI ++ [.int 0])), some (tI (sus n (lots n m ss))), x13, x14] :=
    E.call (ds := [.int 0, .list [.int n, .list (ss.map fun s => .list (s.map .int)), .int m]]) (E.aV E.con (E.aV (E.lst (E.cons (E.var rfl) (E.cons (δ1 := [some scr, some t, x2, some (.int n), some (.list (ss.map tI)), x5, some (.int m), some (.list (ss.map fun s => .list (s.map .int))), some (.list ((lots n m ss).map tI)), x9, some (.list (((lots n m ss).filter (bare ss)).map tI)), some (.list (((lots n m ss).filter (bare ss)).map tI ++ [.int 0])), some (tI (sus n (lots n m ss))), x13, x14]) (lists_at rfl) (E.cons (E.var rfl) E.nil)))) E.aN)) rfl q21
  exact S.ife (k := false) (E.tN (k := true) (E.tV (E.thaw (E.call (ds := [_, _]) (E.aV (E.lst (E.cons (δ1 := [some scr, some t, x2, some (.int n), some (.list (ss.map tI)), x5, some (.int m), some (.list (ss.map fun s => .list (s.map .int))), some (.list ((lots n m ss).map tI)), x9, some (.list (((lots n m ss).filter (bare ss)).map tI)), some (.list (((lots n m ss).filter (bare ss)).map tI ++ [.int 0])), some (tI (sus n (lots n m ss))), x13, x14]) (fr_at hn rfl rfl rfl) (E.cons hh E.nil))) (E.aV (E.lst (E.cons (E.var rfl) (E.cons ht E.nil))) E.aN)) rfl (at19 hp hd)) rfl) rfl)) (by rw [if_neg Bool.false_ne_true]; exact S.nil)
/-- one of those that are tried -/
def Tr (n : Nat) (m : Int) (ss : List (List Int)) (w : PD) : Prop := (∃ l, w = tI l) ∨ noTup w = true ∨ (w = .tuple [.bool true] ∧ (lots n m ss).contains [1] = false)
theorem lots_true {L : List (List Int)} (h : L.contains [1] = false) : cmpD .eq (.list (L.map tI)) (.list [.tuple [.bool true]]) = some false := by
  show eqC _ _ = _
  rw [depth_small (o := .eq) (by decide)]
  match L, h with
  | [], _ => rfl
  | [l], h =>
    simp only [List.map_cons, List.map_nil, PyData.eqv, PyData.eqvAll, Bool.and_true]
    match l, h with
    | [], _ => rfl
    | [x], h =>
      have : x ≠ 1 := fun e => by
        subst e
        simp at h
      simp only [List.map_cons, List.map_nil, PyData.eqvAll, PyData.eqv, Bool.and_true]
      congr 1
      simpa using this
    | x :: y :: r, _ => simp [PyData.eqvAll]
  | l :: l' :: r, _ => simp [PyData.eqv, PyData.eqvAll]
theorem try_ok (hn : n ≤ 8) {w : PD} {x : Option PD} (hw : Tr n m ss w) : dt ψ9 (.val (.cmp .ne (.call 10 [] (.cons (.var 3) (.cons (.bi .tuple (.cons (.var 4) .nil)) (.cons (.var 6) (.cons (.var 9) .nil))))) (.and (.isi (.var 9) [.tuple]) (.cmp .eq (.var 8) (.lst (.cons (.var 9) .nil)))))) [some scr, some t, x2, some (.int n), some (.list (ss.map tI)), x5, some (.int m), some (.list (ss.map fun s => .list (s.map .int))), some (.list ((lots n m ss).map tI)), some w, some (.list (((lots n m ss).filter (bare ss)).map tI)), some (.list (((lots n m ss).filter (bare ss)).map tI ++ [.int 0])), some (tI (sus n (lots n m ss))), x13, x] = .ok false [some scr, some t, x2, some (.int n), some (.list (ss.map tI)), x5, some (.int m), some (.list (ss.map fun s => .list (s.map .int))), some (.list ((lots n m ss).map tI)), some w, some (.list (((lots n m ss).filter (bare ss)).map tI)), some (.list (((lots n m ss).filter (bare ss)).map tI ++ [.int 0])), some (tI (sus n (lots n m ss))), x13, x] := by
  have h7 := at7 20 hn (setsIs_tup ss) m
  rcases hw with ⟨l, rfl⟩ | hw | ⟨rfl, hw⟩
  · refine E.tV (E.cmp (d := .bool (nset l n && decide (lots n m ss = [l]))) (δ1 := [some scr, some t, x2, some (.int n), some (.list (ss.map tI)), x5, some (.int m), some (.list (ss.map fun s => .list (s.map .int))), some (.list ((lots n m ss).map tI)), some (tI l), some (.list (((lots n m ss).filter (bare ss)).map tI)), some (.list (((lots n m ss).filter (bare ss)).map tI ++ [.int 0])), some (tI (sus n (lots n m ss))), x13, x]) (E.call (E.aV (E.var rfl) (E.aV (tup_at rfl) (E.aV (E.var rfl) (E.aV (E.var rfl) E.aN)))) rfl (dfn_run rfl (only_t (at4 18 l n) h7))) (E.and (k := true) (δ1 := [some scr, some t, x2, some (.int n), some (.list (ss.map tI)), x5, some (.int m), some (.list (ss.map fun s => .list (s.map .int))), some (.list ((lots n m ss).map tI)), some (tI l), some (.list (((lots n m ss).filter (bare ss)).map tI)), some (.list (((lots n m ss).filter (bare ss)).map tI ++ [.int 0])), some (tI (sus n (lots n m ss))), x13, x]) (E.isi (E.var rfl)) rfl (by rw [if_pos rfl]; exact E.cmp (E.var rfl) (E.lst (E.cons (E.var rfl) E.nil)) (eq_lots _ l))) (cne_bool _ _)) ?_
    rw [only_right, beq_self_eq_true]; rfl
  · have hi : de ψ9 (.isi (.var 9) [.tuple]) [some scr, some t, x2, some (.int n), some (.list (ss.map tI)), x5, some (.int m), some (.list (ss.map fun s => .list (s.map .int))), some (.list ((lots n m ss).map tI)), some w, some (.list (((lots n m ss).filter (bare ss)).map tI)), some (.list (((lots n m ss).filter (bare ss)).map tI ++ [.int 0])), some (tI (sus n (lots n m ss))), x13, x] = .ok (.bool false) [some scr, some t, x2, some (.int n), some (.list (ss.map tI)), x5, some (.int m), some (.list (ss.map fun s => .list (s.map .int))), some (.list ((lots n m ss).map tI)), some w, some (.list (((lots n m ss).filter (bare ss)).map tI)), some (.list (((lots n m ss).filter (bare ss)).map tI ++ [.int 0])), some (tI (sus n (lots n m ss))), x13, x] := by
      have q := E.isi (ψ := ψ9) (ts := [.tuple]) (a := .var 9) (d := w) (δ := [some scr, some t, x2, some (.int n), some (.list (ss.map tI)), x5, some (.int m), some (.list (ss.map fun s => .list (s.map .int))), some (.list ((lots n m ss).map tI)), some w, some (.list (((lots n m ss).filter (bare ss)).map tI)), some (.list (((lots n m ss).filter (bare ss)).map tI ++ [.int 0])), some (tI (sus n (lots n m ss))), x13, x]) (δ1 := [some scr, some t, x2, some (.int n), some (.list (ss.map tI)), x5, some (.int m), some (.list (ss.map fun s => .list (s.map .int))), some (.list ((lots n m ss).map tI)), some w, some (.list (((lots n m ss).filter (bare ss)).map tI)), some (.list (((lots n m ss).filter (bare ss)).map tI ++ [.int 0])), some (tI (sus n (lots n m ss))), x13, x]) (E.var rfl)
      have e : [Ty.tuple].any (tyD w) = false := by cases w <;> first | rfl | cases hw
      rw [e] at q
      exact q
    exact E.tV (E.cmp (d := .bool false) (δ1 := [some scr, some t, x2, some (.int n), some (.list (ss.map tI)), x5, some (.int m), some (.list (ss.map fun s => .list (s.map .int))), some (.list ((lots n m ss).map tI)), some w, some (.list (((lots n m ss).filter (bare ss)).map tI)), some (.list (((lots n m ss).filter (bare ss)).map tI ++ [.int 0])), some (tI (sus n (lots n m ss))), x13, x]) (E.call (E.aV (E.var rfl) (E.aV (tup_at rfl) (E.aV (E.var rfl) (E.aV (E.var rfl) E.aN)))) rfl (dfn_run rfl (only_no (at4' 21 hw)))) (E.and (k := false) (d := .bool false) (δ1 := [some scr, some t, x2, some (.int n), some (.list (ss.map tI)), x5, some (.int m), some (.list (ss.map fun s => .list (s.map .int))), some (.list ((lots n m ss).map tI)), some w, some (.list (((lots n m ss).filter (bare ss)).map tI)), some (.list (((lots n m ss).filter (bare ss)).map tI ++ [.int 0])), some (tI (sus n (lots n m ss))), x13, x]) hi rfl (by rw [if_neg Bool.false_ne_true])) (cne_bool _ _)) rfl
  · exact E.tV (E.cmp (d := .bool false) (δ1 := [some scr, some t, x2, some (.int n), some (.list (ss.map tI)), x5, some (.int m), some (.list (ss.map fun s => .list (s.map .int))), some (.list ((lots n m ss).map tI)), some (.tuple [.bool true]), some (.list (((lots n m ss).filter (bare ss)).map tI)), some (.list (((lots n m ss).filter (bare ss)).map tI ++ [.int 0])), some (tI (sus n (lots n m ss))), x13, x]) (E.call (E.aV (E.var rfl) (E.aV (tup_at rfl) (E.aV (E.var rfl) (E.aV (E.var rfl) E.aN)))) rfl (dfn_run rfl (only_no (at4T 18 n)))) (E.and (k := true) (δ1 := [some scr, some t, x2, some (.int n), some (.list (ss.map tI)), x5, some (.int m), some (.list (ss.map fun s => .list (s.map .int))), some (.list ((lots n m ss).map tI)), some (.tuple [.bool true]), some (.list (((lots n m ss).filter (bare ss)).map tI)), some (.list (((lots n m ss).filter (bare ss)).map tI ++ [.int 0])), some (tI (sus n (lots n m ss))), x13, x]) (E.isi (E.var rfl)) rfl (by rw [if_pos rfl]; exact E.cmp (E.var rfl) (E.lst (E.cons (E.var rfl) E.nil)) (lots_true hw))) (cne_bool _ _)) rfl
end
end K32

namespace K32
open Gn PySem
section
variable {scr t : PD} {n : Nat} {m : Int} {ss : List (List Int)} {x2 x5 x6 x7 x8 x9 x10 x11 x12 x13 x14 : Option PD}
theorem cut2l (xs : List PD) : cutD xs none (some 2) = xs.take 2 := by
  unfold cutD
  rw [show HT.sIx xs.length xs.length (some 2) = min 2 xs.length from HT.sIx_nat _ _ 2, HT.sIx_none, List.drop_zero, Nat.sub_zero]
  rcases Nat.lt_or_ge xs.length 2 with h | h
  · rw [Nat.min_eq_right (by omega), List.take_of_length_le (Nat.le_refl _), List.take_of_length_le (by omega)]
  · rw [Nat.min_eq_left h]
/-- those that are tried -/
theorem tries_ok {q : Nat} (hb : Box q t) (hq : q < 2 ^ 38) (hn : n ≤ 8) : ∃ t' W, dx ψ9 (.asg (.name 14) (.bin .add (.bin .add (.call 18 [true, false, false] (.cons (.var 1) (.cons (.call 22 [] (.cons (.var 3) .nil)) (.cons (.con (.int 5)) .nil)))) (.slc (.var 8) .none (.some (.con (.int 2))))) (.lst (.cons (.tup (.cons (.var 3) .nil)) (.cons (.tup (.cons (.con (.int 0)) (.cons (.con (.int 0)) .nil))) (.cons (.ite (.val (.cmp .ne (.var 8) (.lst .nil))) (.bi .list (.cons (.sub (.var 8) (.con (.int 0))) .nil)) (.con .none)) (.cons (.con .none) (.cons (.con (.int 0)) (.cons (.tup (.cons (.neg (.con (.int 1))) .nil)) (.cons (.ite (.val (.cmp .notin (.tup (.cons (.con (.int 1)) .nil)) (.var 8))) (.tup (.cons (.con (.bool true)) .nil)) (.con .none)) .nil)))))))))) [some scr, some t, x2, some (.int n), some (.list (ss.map tI)), x5, some (.int m), some (.list (ss.map fun s => .list (s.map .int))), some (.list ((lots n m ss).map tI)), x9, some (.list (((lots n m ss).filter (bare ss)).map tI)), some (.list (((lots n m ss).filter (bare ss)).map tI ++ [.int 0])), some (tI (sus n (lots n m ss))), x13, x14] = .ok .next [some scr, some t', x2, some (.int n), some (.list (ss.map tI)), x5, some (.int m), some (.list (ss.map fun s => .list (s.map .int))), some (.list ((lots n m ss).map tI)), x9, some (.list (((lots n m ss).filter (bare ss)).map tI)), some (.list (((lots n m ss).filter (bare ss)).map tI ++ [.int 0])), some (tI (sus n (lots n m ss))), x13, some (.list W)] ∧ Box (q + 300) t' ∧ ∀ w ∈ W, Tr n m ss w := by
  have SLv : 1000 ≤ SL := by decide
  have sl : (ssub n).length ≤ 256 := by
    rw [(ssub_perm n).length_eq, subs_len]
    exact pow8 hn
  obtain ⟨ys, zs, t1, e1, hp, hy, hb1⟩ := at18 21 hb (xs := (ssub n).map tI) (g := .list ((ssub n).map tI)) (.inl rfl) (by rw [List.length_map]; omega) (c := 5) (by decide) (by rw [List.length_map]; omega)
  obtain ⟨xs, rfl⟩ := hb.list
  have hyl : ys.length ≤ 5 := by rw [hy]; exact Nat.min_le_left _ _
  have hys : ∀ y ∈ ys, ∃ l, y = tI l := fun y hy => by
    have := hp.subset (List.mem_append_left _ hy)
    obtain ⟨l, _, rfl⟩ := List.mem_map.mp this
    exact ⟨l, rfl⟩
  -- the two that depend on the lots
  obtain ⟨V3, h3, e3⟩ : ∃ V3, noTup V3 = true ∧ de ψ9 (.ite (.val (.cmp .ne (.var 8) (.lst .nil))) (.bi .list (.cons (.sub (.var 8) (.con (.int 0))) .nil)) (.con .none)) [some scr, some t1, x2, some (.int n), some (.list (ss.map tI)), x5, some (.int m), some (.list (ss.map fun s => .list (s.map .int))), some (.list ((lots n m ss).map tI)), x9, some (.list (((lots n m ss).filter (bare ss)).map tI)), some (.list (((lots n m ss).filter (bare ss)).map tI ++ [.int 0])), some (tI (sus n (lots n m ss))), x13, x14] = .ok V3 [some scr, some t1, x2, some (.int n), some (.list (ss.map tI)), x5, some (.int m), some (.list (ss.map fun s => .list (s.map .int))), some (.list ((lots n m ss).map tI)), x9, some (.list (((lots n m ss).filter (bare ss)).map tI)), some (.list (((lots n m ss).filter (bare ss)).map tI ++ [.int 0])), some (tI (sus n (lots n m ss))), x13, x14] := by
    rcases (by cases lots n m ss with
      | nil => exact .inl rfl
      | cons l L => exact .inr ⟨l, L, rfl⟩ : lots n m ss = [] ∨ ∃ l L, lots n m ss = l :: L) with hL | ⟨l, L, hL⟩
    · refine ⟨.none, rfl, E.ite (k := false) (δ1 := [some scr, some t1, x2, some (.int n), some (.list (ss.map tI)), x5, some (.int m), some (.list (ss.map fun s => .list (s.map .int))), some (.list ((lots n m ss).map tI)), x9, some (.list (((lots n m ss).filter (bare ss)).map tI)), some (.list (((lots n m ss).filter (bare ss)).map tI ++ [.int 0])), some (tI (sus n (lots n m ss))), x13, x14]) (E.tV (E.cmp (E.var rfl) (E.lst E.nil) (cne_nilL _)) (by rw [hL]; rfl)) ?_⟩
      rw [if_neg Bool.false_ne_true]
      exact E.con
    · refine ⟨.list (l.map .int), rfl, E.ite (k := true) (δ1 := [some scr, some t1, x2, some (.int n), some (.list (ss.map tI)), x5, some (.int m), some (.list (ss.map fun s => .list (s.map .int))), some (.list ((lots n m ss).map tI)), x9, some (.list (((lots n m ss).filter (bare ss)).map tI)), some (.list (((lots n m ss).filter (bare ss)).map tI ++ [.int 0])), some (tI (sus n (lots n m ss))), x13, x14]) (E.tV (E.cmp (E.var rfl) (E.lst E.nil) (cne_nilL _)) (by rw [hL]; rfl)) ?_⟩
      rw [if_pos rfl]
      exact E.bi (E.cons (E.sub (r := tI l) (E.var rfl) E.con (by rw [hL]; exact atI_zero)) E.nil) rfl
  obtain ⟨V7, h7, e7⟩ : ∃ V7, Tr n m ss V7 ∧ de ψ9 (.ite (.val (.cmp .notin (.tup (.cons (.con (.int 1)) .nil)) (.var 8))) (.tup (.cons (.con (.bool true)) .nil)) (.con .none)) [some scr, some t1, x2, some (.int n), some (.list (ss.map tI)), x5, some (.int m), some (.list (ss.map fun s => .list (s.map .int))), some (.list ((lots n m ss).map tI)), x9, some (.list (((lots n m ss).filter (bare ss)).map tI)), some (.list (((lots n m ss).filter (bare ss)).map tI ++ [.int 0])), some (tI (sus n (lots n m ss))), x13, x14] = .ok V7 [some scr, some t1, x2, some (.int n), some (.list (ss.map tI)), x5, some (.int m), some (.list (ss.map fun s => .list (s.map .int))), some (.list ((lots n m ss).map tI)), x9, some (.list (((lots n m ss).filter (bare ss)).map tI)), some (.list (((lots n m ss).filter (bare ss)).map tI ++ [.int 0])), some (tI (sus n (lots n m ss))), x13, x14] := by
    cases hL : (lots n m ss).contains [1] with
    | true =>
      refine ⟨.none, .inr (.inl rfl), E.ite (k := false) (δ1 := [some scr, some t1, x2, some (.int n), some (.list (ss.map tI)), x5, some (.int m), some (.list (ss.map fun s => .list (s.map .int))), some (.list ((lots n m ss).map tI)), x9, some (.list (((lots n m ss).filter (bare ss)).map tI)), some (.list (((lots n m ss).filter (bare ss)).map tI ++ [.int 0])), some (tI (sus n (lots n m ss))), x13, x14]) (E.tV (E.cmp (d := tI [1]) (E.tup (E.cons E.con E.nil)) (E.var rfl) (notin_tI [1] _)) (by rw [hL]; rfl)) ?_⟩
      rw [if_neg Bool.false_ne_true]
      exact E.con
    | false =>
      refine ⟨.tuple [.bool true], .inr (.inr ⟨rfl, hL⟩), E.ite (k := true) (δ1 := [some scr, some t1, x2, some (.int n), some (.list (ss.map tI)), x5, some (.int m), some (.list (ss.map fun s => .list (s.map .int))), some (.list ((lots n m ss).map tI)), x9, some (.list (((lots n m ss).filter (bare ss)).map tI)), some (.list (((lots n m ss).filter (bare ss)).map tI ++ [.int 0])), some (tI (sus n (lots n m ss))), x13, x14]) (E.tV (E.cmp (d := tI [1]) (E.tup (E.cons E.con E.nil)) (E.var rfl) (notin_tI [1] _)) (by rw [hL]; rfl)) ?_⟩
      rw [if_pos rfl]
      exact E.tup (E.cons E.con E.nil)
  refine ⟨t1, ys ++ ((lots n m ss).map tI).take 2 ++ [tI [(n : Int)], tI [0, 0], V3, .none, .int 0, tI [-1], V7], ?_, hb1.mono (by rw [List.length_map]; omega), ?_⟩
  · refine S.asg (δ1 := [some scr, some t1, x2, some (.int n), some (.list (ss.map tI)), x5, some (.int m), some (.list (ss.map fun s => .list (s.map .int))), some (.list ((lots n m ss).map tI)), x9, some (.list (((lots n m ss).filter (bare ss)).map tI)), some (.list (((lots n m ss).filter (bare ss)).map tI ++ [.int 0])), some (tI (sus n (lots n m ss))), x13, x14]) (E.bin (d := .list (ys ++ ((lots n m ss).map tI).take 2)) (e := .list [tI [(n : Int)], tI [0, 0], V3, .none, .int 0, tI [-1], V7]) (δ1 := [some scr, some t1, x2, some (.int n), some (.list (ss.map tI)), x5, some (.int m), some (.list (ss.map fun s => .list (s.map .int))), some (.list ((lots n m ss).map tI)), x9, some (.list (((lots n m ss).filter (bare ss)).map tI)), some (.list (((lots n m ss).filter (bare ss)).map tI ++ [.int 0])), some (tI (sus n (lots n m ss))), x13, x14]) ?_ (E.lst (E.cons (E.tup (E.cons (E.var rfl) E.nil)) (E.cons (E.tup (E.cons E.con (E.cons E.con E.nil))) (E.cons e3 (E.cons E.con (E.cons E.con (E.cons (E.tup (E.cons (E.neg E.con rfl) E.nil)) (E.cons e7 E.nil)))))))) ?_) rfl
    · have h22 : de ψ9 (.call 22 [] (.cons (.var 3) .nil)) [some scr, some (.list xs), x2, some (.int n), some (.list (ss.map tI)), x5, some (.int m), some (.list (ss.map fun s => .list (s.map .int))), some (.list ((lots n m ss).map tI)), x9, some (.list (((lots n m ss).filter (bare ss)).map tI)), some (.list (((lots n m ss).filter (bare ss)).map tI ++ [.int 0])), some (tI (sus n (lots n m ss))), x13, x14] = .ok (.list ((ssub n).map tI)) [some scr, some (.list xs), x2, some (.int n), some (.list (ss.map tI)), x5, some (.int m), some (.list (ss.map fun s => .list (s.map .int))), some (.list ((lots n m ss).map tI)), x9, some (.list (((lots n m ss).filter (bare ss)).map tI)), some (.list (((lots n m ss).filter (bare ss)).map tI ++ [.int 0])), some (tI (sus n (lots n m ss))), x13, x14] := E.call (E.aV (E.var rfl) E.aN) rfl (at22 22 hn)
      have ha : dea ψ9 (.cons (.var 1) (.cons (.call 22 [] (.cons (.var 3) .nil)) (.cons (.con (.int 5)) .nil))) [true, false, false] [some scr, some (.list xs), x2, some (.int n), some (.list (ss.map tI)), x5, some (.int m), some (.list (ss.map fun s => .list (s.map .int))), some (.list ((lots n m ss).map tI)), x9, some (.list (((lots n m ss).filter (bare ss)).map tI)), some (.list (((lots n m ss).filter (bare ss)).map tI ++ [.int 0])), some (tI (sus n (lots n m ss))), x13, x14] = .ok [.ref 1, .val (.list ((ssub n).map tI)), .val (.int 5)] [some scr, some (.list xs), x2, some (.int n), some (.list (ss.map tI)), x5, some (.int m), some (.list (ss.map fun s => .list (s.map .int))), some (.list ((lots n m ss).map tI)), x9, some (.list (((lots n m ss).filter (bare ss)).map tI)), some (.list (((lots n m ss).filter (bare ss)).map tI ++ [.int 0])), some (tI (sus n (lots n m ss))), x13, x14] := E.aR rfl (E.aF h22 (E.aF E.con E.aN))
      have hc : de ψ9 (.call 18 [true, false, false] (.cons (.var 1) (.cons (.call 22 [] (.cons (.var 3) .nil)) (.cons (.con (.int 5)) .nil)))) [some scr, some (.list xs), x2, some (.int n), some (.list (ss.map tI)), x5, some (.int m), some (.list (ss.map fun s => .list (s.map .int))), some (.list ((lots n m ss).map tI)), x9, some (.list (((lots n m ss).filter (bare ss)).map tI)), some (.list (((lots n m ss).filter (bare ss)).map tI ++ [.int 0])), some (tI (sus n (lots n m ss))), x13, x14] = .ok (.list ys) [some scr, some t1, x2, some (.int n), some (.list (ss.map tI)), x5, some (.int m), some (.list (ss.map fun s => .list (s.map .int))), some (.list ((lots n m ss).map tI)), x9, some (.list (((lots n m ss).filter (bare ss)).map tI)), some (.list (((lots n m ss).filter (bare ss)).map tI ++ [.int 0])), some (tI (sus n (lots n m ss))), x13, x14] := E.call ha rfl e1
      refine E.bin (δ1 := [some scr, some t1, x2, some (.int n), some (.list (ss.map tI)), x5, some (.int m), some (.list (ss.map fun s => .list (s.map .int))), some (.list ((lots n m ss).map tI)), x9, some (.list (((lots n m ss).filter (bare ss)).map tI)), some (.list (((lots n m ss).filter (bare ss)).map tI ++ [.int 0])), some (tI (sus n (lots n m ss))), x13, x14]) hc (E.slc (r := .list (((lots n m ss).map tI).take 2)) (E.var rfl) E.oN (E.oS E.con) ?_) ?_
      · show some (PyData.list (cutD _ none (some 2))) = _
        rw [cut2l]
      · refine add_list ?_
        have := List.length_take_le 2 ((lots n m ss).map tI)
        omega
    · refine add_list ?_
      rw [List.length_append]
      have := List.length_take_le 2 ((lots n m ss).map tI)
      simp only [List.length_cons, List.length_nil]
      omega
  · intro w hw
    rcases List.mem_append.mp hw with hw | hw
    · rcases List.mem_append.mp hw with hw | hw
      · exact .inl (hys w hw)
      · obtain ⟨l, _, rfl⟩ := List.mem_map.mp (List.mem_of_mem_take hw)
        exact .inl ⟨l, rfl⟩
    · simp only [List.mem_cons, List.not_mem_nil, or_false] at hw
      rcases hw with rfl | rfl | rfl | rfl | rfl | rfl | rfl
      · exact .inl ⟨_, rfl⟩
      · exact .inl ⟨_, rfl⟩
      · exact .inr (.inl h3)
      · exact .inr (.inl rfl)
      · exact .inr (.inl rfl)
      · exact .inl ⟨_, rfl⟩
      · exact h7
theorem tS3 (hn : n ≤ 8) {W : List PD} (hW : ∀ w ∈ W, Tr n m ss w) : dx ψ9 (.ife (.val (.cmp .ne (.comp (.var 9) [9] (.name 9) (.seq (.var 14)) (.val (.cmp .ne (.call 10 [] (.cons (.var 3) (.cons (.bi .tuple (.cons (.var 4) .nil)) (.cons (.var 6) (.cons (.var 9) .nil))))) (.and (.isi (.var 9) [.tuple]) (.cmp .eq (.var 8) (.lst (.cons (.var 9) .nil))))))) (.lst .nil))) (.cons (.ret (.con (.bool false))) .nil) .nil) [some scr, some t, x2, some (.int n), some (.list (ss.map tI)), x5, some (.int m), some (.list (ss.map fun s => .list (s.map .int))), some (.list ((lots n m ss).map tI)), x9, some (.list (((lots n m ss).filter (bare ss)).map tI)), some (.list (((lots n m ss).filter (bare ss)).map tI ++ [.int 0])), some (tI (sus n (lots n m ss))), x13, some (.list W)] = .ok .next [some scr, some t, x2, some (.int n), some (.list (ss.map tI)), x5, some (.int m), some (.list (ss.map fun s => .list (s.map .int))), some (.list ((lots n m ss).map tI)), x9, some (.list (((lots n m ss).filter (bare ss)).map tI)), some (.list (((lots n m ss).filter (bare ss)).map tI ++ [.int 0])), some (tI (sus n (lots n m ss))), x13, some (.list W)] := by
  have q := comp_pure (own := [9]) (tg := .name 9) (c := dt ψ9 (.val (.cmp .ne (.call 10 [] (.cons (.var 3) (.cons (.bi .tuple (.cons (.var 4) .nil)) (.cons (.var 6) (.cons (.var 9) .nil))))) (.and (.isi (.var 9) [.tuple]) (.cmp .eq (.var 8) (.lst (.cons (.var 9) .nil))))))) (el := de ψ9 (.var 9)) (ds := W) (δ := [some scr, some t, x2, some (.int n), some (.list (ss.map tI)), x5, some (.int m), some (.list (ss.map fun s => .list (s.map .int))), some (.list ((lots n m ss).map tI)), x9, some (.list (((lots n m ss).filter (bare ss)).map tI)), some (.list (((lots n m ss).filter (bare ss)).map tI ++ [.int 0])), some (tI (sus n (lots n m ss))), x13, some (.list W)]) (fun _ => false) id (fun w => [some scr, some t, x2, some (.int n), some (.list (ss.map tI)), x5, some (.int m), some (.list (ss.map fun s => .list (s.map .int))), some (.list ((lots n m ss).map tI)), some w, some (.list (((lots n m ss).filter (bare ss)).map tI)), some (.list (((lots n m ss).filter (bare ss)).map tI ++ [.int 0])), some (tI (sus n (lots n m ss))), x13, some (.list W)]) (by decide) (fun _ _ => rfl) (fun _ _ => rfl) (fun _ _ => rfl) rfl
    (fun w hw => try_ok hn (hW w hw)) (fun w hw h => nomatch h)
  have e0 : (W.filter fun _ => false) = [] := by simp
  rw [e0] at q
  exact S.ife (k := false) (E.tV (E.cmp (d := .list []) (E.comp (E.iS (E.var rfl) rfl) q) (E.lst E.nil) (cne_nilL [])) rfl) (by rw [if_neg Bool.false_ne_true]; exact S.nil)
theorem tS4 (hn : n ≤ 8) : dx ψ9 (.ife (.and (.val (.cmp .ne (.var 4) (.lst .nil))) (.val (.cmp .ne (.comp (.var 9) [9] (.name 9) (.seq (.call 8 [] (.cons (.var 3) (.cons (.bi .tuple (.cons (.var 4) .nil)) (.cons (.var 6) .nil))))) (.val (.cmp .notin (.var 9) (.var 8)))) (.lst .nil)))) (.cons (.ret (.con (.bool false))) .nil) .nil) [some scr, some t, x2, some (.int n), some (.list (ss.map tI)), x5, some (.int m), some (.list (ss.map fun s => .list (s.map .int))), some (.list ((lots n m ss).map tI)), x9, some (.list (((lots n m ss).filter (bare ss)).map tI)), some (.list (((lots n m ss).filter (bare ss)).map tI ++ [.int 0])), some (tI (sus n (lots n m ss))), x13, x14] = .ok .next [some scr, some t, x2, some (.int n), some (.list (ss.map tI)), x5, some (.int m), some (.list (ss.map fun s => .list (s.map .int))), some (.list ((lots n m ss).map tI)), x9, some (.list (((lots n m ss).filter (bare ss)).map tI)), some (.list (((lots n m ss).filter (bare ss)).map tI ++ [.int 0])), some (tI (sus n (lots n m ss))), x13, x14] := by
  refine S.ife (k := false) (δ1 := [some scr, some t, x2, some (.int n), some (.list (ss.map tI)), x5, some (.int m), some (.list (ss.map fun s => .list (s.map .int))), some (.list ((lots n m ss).map tI)), x9, some (.list (((lots n m ss).filter (bare ss)).map tI)), some (.list (((lots n m ss).filter (bare ss)).map tI ++ [.int 0])), some (tI (sus n (lots n m ss))), x13, x14]) (E.tA (k := !ss.isEmpty) (δ1 := [some scr, some t, x2, some (.int n), some (.list (ss.map tI)), x5, some (.int m), some (.list (ss.map fun s => .list (s.map .int))), some (.list ((lots n m ss).map tI)), x9, some (.list (((lots n m ss).filter (bare ss)).map tI)), some (.list (((lots n m ss).filter (bare ss)).map tI ++ [.int 0])), some (tI (sus n (lots n m ss))), x13, x14]) (E.tV (E.cmp (E.var rfl) (E.lst E.nil) (cne_nilL _)) (by rw [List.isEmpty_map]; rfl)) ?_) (by rw [if_neg Bool.false_ne_true]; exact S.nil)
  have key : dt ψ9 (.val (.cmp .ne (.comp (.var 9) [9] (.name 9) (.seq (.call 8 [] (.cons (.var 3) (.cons (.bi .tuple (.cons (.var 4) .nil)) (.cons (.var 6) .nil))))) (.val (.cmp .notin (.var 9) (.var 8)))) (.lst .nil))) [some scr, some t, x2, some (.int n), some (.list (ss.map tI)), x5, some (.int m), some (.list (ss.map fun s => .list (s.map .int))), some (.list ((lots n m ss).map tI)), x9, some (.list (((lots n m ss).filter (bare ss)).map tI)), some (.list (((lots n m ss).filter (bare ss)).map tI ++ [.int 0])), some (tI (sus n (lots n m ss))), x13, x14] = .ok false [some scr, some t, x2, some (.int n), some (.list (ss.map tI)), x5, some (.int m), some (.list (ss.map fun s => .list (s.map .int))), some (.list ((lots n m ss).map tI)), x9, some (.list (((lots n m ss).filter (bare ss)).map tI)), some (.list (((lots n m ss).filter (bare ss)).map tI ++ [.int 0])), some (tI (sus n (lots n m ss))), x13, x14] := by
    refine E.tV (E.cmp (d := .list ((((lots n m ss).filter (bare ss)).filter fun l => !(lots n m ss).contains l).map tI)) (E.compL _ (E.iS (fr_at hn rfl rfl rfl) rfl) ?_) (E.lst E.nil) (cne_nilL _)) ?_
    · exact comp_enc (enc := tI) (p := fun l => !(lots n m ss).contains l) (f := tI) (Δ := fun l => [some scr, some t, x2, some (.int n), some (.list (ss.map tI)), x5, some (.int m), some (.list (ss.map fun s => .list (s.map .int))), some (.list ((lots n m ss).map tI)), some (tI l), some (.list (((lots n m ss).filter (bare ss)).map tI)), some (.list (((lots n m ss).filter (bare ss)).map tI ++ [.int 0])), some (tI (sus n (lots n m ss))), x13, x14]) rfl (by decide) (fun _ _ => rfl) (fun _ _ => rfl) (fun _ _ => rfl) rfl (fun l _ => E.tV (E.cmp (E.var rfl) (E.var rfl) (notin_tI l _)) rfl) (fun l _ _ => E.var rfl)
    · have : (((lots n m ss).filter (bare ss)).filter fun l => !(lots n m ss).contains l) = [] := by
        rw [List.filter_eq_nil_iff]
        intro l hl
        have := (List.mem_filter.mp hl).1
        simp [this]
      rw [this]; rfl
  cases ss.isEmpty with
  | true => rfl
  | false =>
    rw [Bool.not_false, if_pos rfl]
    exact key
/-- a turn of the law -/
theorem turn_ok {q : Nat} (hb : Box q t) (hq : q < 2 ^ 37) : ∃ t' y3 y4 y5 y6 y7 y8 y9 y10 y11 y12 y13 y14, dxs ψ9 lawBody [some scr, some t, x2, x3, x4, x5, x6, x7, x8, x9, x10, x11, x12, x13, x14] = .ok .next [some scr, some t', x2, y3, y4, y5, y6, y7, y8, y9, y10, y11, y12, y13, y14] ∧ Box (q + 1000) t' := by
  have SLv : 1000 ≤ SL := by decide
  obtain ⟨d1, t1, e1, a1, b1, hb1⟩ := at15 22 q t 6 (by omega) hb (by decide) (by decide)
  obtain ⟨d2, t2, e2, m2, hb2⟩ := at17 21 (by omega) hb1 (xs := [.int 8, .int 1, .int 5, .int (2 + d1)]) (g := .list [.int 8, .int 1, .int 5, .int (2 + d1)]) (.inl rfl) (by simp) (by simp)
  obtain ⟨n, rfl, hn1, hn8⟩ : ∃ n : Nat, d2 = .int n ∧ 1 ≤ n ∧ n ≤ 8 := by
    simp only [List.mem_cons, List.not_mem_nil, or_false] at m2
    rcases m2 with rfl | rfl | rfl | rfl
    · exact ⟨8, rfl, by decide, by decide⟩
    · exact ⟨1, rfl, by decide, by decide⟩
    · exact ⟨5, rfl, by decide, by decide⟩
    · refine ⟨(2 + d1).toNat, ?_, by omega, by omega⟩
      congr 1
      omega
  obtain ⟨d3, t3, e3, a3, b3, hb3⟩ := at15 22 (q + 1 + 1) t2 6 (by omega) hb2 (by decide) (by decide)
  obtain ⟨d4, t4, e4, m4, hb4⟩ := at17 21 (by omega) hb3 (xs := [.int 12, .int 0, .int 3, .int d3]) (g := .list [.int 12, .int 0, .int 3, .int d3]) (.inl rfl) (by simp) (by simp)
  obtain ⟨c, rfl, hc⟩ : ∃ c : Nat, d4 = .int c ∧ c ≤ 12 := by
    simp only [List.mem_cons, List.not_mem_nil, or_false] at m4
    rcases m4 with rfl | rfl | rfl | rfl
    · exact ⟨12, rfl, by decide⟩
    · exact ⟨0, rfl, by decide⟩
    · exact ⟨3, rfl, by decide⟩
    · refine ⟨d3.toNat, ?_, by omega⟩
      congr 1
      omega
  obtain ⟨xs, rfl⟩ := hb.list
  obtain ⟨xs1, rfl⟩ := hb1.list
  obtain ⟨xs2, rfl⟩ := hb2.list
  obtain ⟨xs3, rfl⟩ := hb3.list
  obtain ⟨δ', l1, t5, ss, z5, rfl, hb5, hss⟩ := dfor_inv (t := .name 5) (b := dxs ψ9 appK)
    (fun pre δ => ∃ t5 ss z5, δ = [some scr, some t5, x2, some (.int n), some (.list (ss.map tI)), z5, x6, x7, x8, x9, x10, x11, x12, x13, x14] ∧ Box (q + 1 + 1 + 1 + 1 + 20 * pre.length) t5 ∧ ss.length = pre.length) (rngD 0 c) [] [some scr, some t4, x2, some (.int n), some (.list []), x5, x6, x7, x8, x9, x10, x11, x12, x13, x14] ⟨t4, [], x5, rfl, hb4, rfl⟩
    (fun pre d post δ e ⟨t5, ss, z5, hδ, hb5, hss⟩ => by
      rw [List.nil_append] at e
      obtain ⟨rfl, lt⟩ := ppl_split e
      subst hδ
      obtain ⟨t6, s, e6, hb6⟩ := draw_set (scr := scr) hb5 (by omega) hn1 hn8 (ss := ss) (by omega) (x2 := x2) (x5 := some (.int pre.length)) (x6 := x6) (x7 := x7) (x8 := x8) (x9 := x9) (x10 := x10) (x11 := x11) (x12 := x12) (x13 := x13) (x14 := x14)
      refine ⟨_, rfl, _, .inl e6, t6, ss ++ [s], some (.int pre.length), rfl, ?_, ?_⟩
      · rw [List.length_append]
        exact hb6.mono (by simp only [List.length_cons, List.length_nil]; omega)
      · rw [List.length_append, List.length_append, hss]; rfl)
  have hlen : (rngD 0 c).length = c := by rw [rngD_map, List.length_map, List.length_range]
  rw [List.nil_append, hlen] at hb5 hss
  obtain ⟨xs5, rfl⟩ := hb5.list
  obtain ⟨m, t6, e6, a6, b6, hb6⟩ := at15 22 _ _ ((n : Int) + 1) (by omega) hb5 (by omega) (by omega)
  obtain ⟨t7, W, e7, hb7, hW⟩ := tries_ok (scr := scr) (ss := ss) (m := m) (x2 := x2) (x5 := z5) (x9 := x9) (x13 := x13) (x14 := x14) hb6 (by omega) hn8
  refine ⟨t7, some (.int n), some (.list (ss.map tI)), z5, some (.int m), some (.list (ss.map fun s => .list (s.map .int))), some (.list ((lots n m ss).map tI)), x9, some (.list (((lots n m ss).filter (bare ss)).map tI)), some (.list (((lots n m ss).filter (bare ss)).map tI ++ [.int 0])), some (tI (sus n (lots n m ss))), x13, some (.list W), ?_, hb7.mono (by omega)⟩
  have e1 : ψ9 15 [.list xs, .int 6] = .ok (.int d1) [some (.list xs1), some (.int 6)] := e1
  have e3 : ψ9 15 [.list xs2, .int 6] = .ok (.int d3) [some (.list xs3), some (.int 6)] := e3
  have c1 : de ψ9 (.call 15 [true, false] (.cons (.var 1) (.cons (.con (.int 6)) .nil))) [some scr, some (.list xs), x2, x3, x4, x5, x6, x7, x8, x9, x10, x11, x12, x13, x14] = .ok (.int d1) [some scr, some (.list xs1), x2, x3, x4, x5, x6, x7, x8, x9, x10, x11, x12, x13, x14] := E.call (E.aR rfl (E.aF E.con E.aN)) rfl e1
  have l17 : de ψ9 (.lst (.cons (.con (.int 8)) (.cons (.con (.int 1)) (.cons (.con (.int 5)) (.cons (.bin .add (.con (.int 2)) (.call 15 [true, false] (.cons (.var 1) (.cons (.con (.int 6)) .nil)))) .nil))))) [some scr, some (.list xs), x2, x3, x4, x5, x6, x7, x8, x9, x10, x11, x12, x13, x14] = .ok (.list [.int 8, .int 1, .int 5, .int (2 + d1)]) [some scr, some (.list xs1), x2, x3, x4, x5, x6, x7, x8, x9, x10, x11, x12, x13, x14] := E.lst (E.cons E.con (E.cons E.con (E.cons E.con (E.cons (E.bin E.con c1 rfl) E.nil))))
  have a17 : dea ψ9 (.cons (.var 1) (.cons (.lst (.cons (.con (.int 8)) (.cons (.con (.int 1)) (.cons (.con (.int 5)) (.cons (.bin .add (.con (.int 2)) (.call 15 [true, false] (.cons (.var 1) (.cons (.con (.int 6)) .nil)))) .nil))))) .nil)) [true, false] [some scr, some (.list xs), x2, x3, x4, x5, x6, x7, x8, x9, x10, x11, x12, x13, x14] = .ok [.ref 1, .val (.list [.int 8, .int 1, .int 5, .int (2 + d1)])] [some scr, some (.list xs1), x2, x3, x4, x5, x6, x7, x8, x9, x10, x11, x12, x13, x14] := E.aR rfl (E.aF l17 E.aN)
  have hn17 : de ψ9 (.call 17 [true, false] (.cons (.var 1) (.cons (.lst (.cons (.con (.int 8)) (.cons (.con (.int 1)) (.cons (.con (.int 5)) (.cons (.bin .add (.con (.int 2)) (.call 15 [true, false] (.cons (.var 1) (.cons (.con (.int 6)) .nil)))) .nil))))) .nil))) [some scr, some (.list xs), x2, x3, x4, x5, x6, x7, x8, x9, x10, x11, x12, x13, x14] = .ok (.int n) [some scr, some (.list xs2), x2, x3, x4, x5, x6, x7, x8, x9, x10, x11, x12, x13, x14] := E.call a17 rfl e2
  have c3 : de ψ9 (.call 15 [true, false] (.cons (.var 1) (.cons (.con (.int 6)) .nil))) [some scr, some (.list xs2), x2, some (.int n), some (.list []), x5, x6, x7, x8, x9, x10, x11, x12, x13, x14] = .ok (.int d3) [some scr, some (.list xs3), x2, some (.int n), some (.list []), x5, x6, x7, x8, x9, x10, x11, x12, x13, x14] := E.call (E.aR rfl (E.aF E.con E.aN)) rfl e3
  have l18 : de ψ9 (.lst (.cons (.con (.int 12)) (.cons (.con (.int 0)) (.cons (.con (.int 3)) (.cons (.call 15 [true, false] (.cons (.var 1) (.cons (.con (.int 6)) .nil))) .nil))))) [some scr, some (.list xs2), x2, some (.int n), some (.list []), x5, x6, x7, x8, x9, x10, x11, x12, x13, x14] = .ok (.list [.int 12, .int 0, .int 3, .int d3]) [some scr, some (.list xs3), x2, some (.int n), some (.list []), x5, x6, x7, x8, x9, x10, x11, x12, x13, x14] := E.lst (E.cons E.con (E.cons E.con (E.cons E.con (E.cons c3 E.nil))))
  have a18 : dea ψ9 (.cons (.var 1) (.cons (.lst (.cons (.con (.int 12)) (.cons (.con (.int 0)) (.cons (.con (.int 3)) (.cons (.call 15 [true, false] (.cons (.var 1) (.cons (.con (.int 6)) .nil))) .nil))))) .nil)) [true, false] [some scr, some (.list xs2), x2, some (.int n), some (.list []), x5, x6, x7, x8, x9, x10, x11, x12, x13, x14] = .ok [.ref 1, .val (.list [.int 12, .int 0, .int 3, .int d3])] [some scr, some (.list xs3), x2, some (.int n), some (.list []), x5, x6, x7, x8, x9, x10, x11, x12, x13, x14] := E.aR rfl (E.aF l18 E.aN)
  have hc17 : de ψ9 (.call 17 [true, false] (.cons (.var 1) (.cons (.lst (.cons (.con (.int 12)) (.cons (.con (.int 0)) (.cons (.con (.int 3)) (.cons (.call 15 [true, false] (.cons (.var 1) (.cons (.con (.int 6)) .nil))) .nil))))) .nil))) [some scr, some (.list xs2), x2, some (.int n), some (.list []), x5, x6, x7, x8, x9, x10, x11, x12, x13, x14] = .ok (.int c) [some scr, some t4, x2, some (.int n), some (.list []), x5, x6, x7, x8, x9, x10, x11, x12, x13, x14] := E.call a18 rfl e4
  have e6 : ψ9 15 [.list xs5, .int ((n : Int) + 1)] = .ok (.int m) [some t6, some (.int ((n : Int) + 1))] := e6
  have a15 : dea ψ9 (.cons (.var 1) (.cons (.bin .add (.var 3) (.con (.int 1))) .nil)) [true, false] [some scr, some (.list xs5), x2, some (.int n), some (.list (ss.map tI)), z5, x6, x7, x8, x9, x10, x11, x12, x13, x14] = .ok [.ref 1, .val (.int ((n : Int) + 1))] [some scr, some (.list xs5), x2, some (.int n), some (.list (ss.map tI)), z5, x6, x7, x8, x9, x10, x11, x12, x13, x14] := E.aR rfl (E.aF (E.bin (E.var rfl) E.con rfl) E.aN)
  have hm15 : de ψ9 (.call 15 [true, false] (.cons (.var 1) (.cons (.bin .add (.var 3) (.con (.int 1))) .nil))) [some scr, some (.list xs5), x2, some (.int n), some (.list (ss.map tI)), z5, x6, x7, x8, x9, x10, x11, x12, x13, x14] = .ok (.int m) [some scr, some t6, x2, some (.int n), some (.list (ss.map tI)), z5, x6, x7, x8, x9, x10, x11, x12, x13, x14] := E.call a15 rfl e6
  show dxs ψ9 (.cons _ _) _ = _
  refine S.cons (S.asg hn17 rfl) ?_
  refine S.cons (S.asg (E.lst E.nil) rfl) ?_
  refine S.cons (S.for (E.iR (j := (c : Int)) hc17 (rngOk_small (by omega))) l1) ?_
  refine S.cons (S.asg hm15 rfl) ?_
  refine S.cons (S.asg K32.t7 rfl) ?_
  refine S.cons (S.asg (t8 hn8) rfl) ?_
  refine S.cons (S.asg (t10 hn8) rfl) ?_
  refine S.cons (S.asg (t11 hn8) rfl) ?_
  refine S.cons (tS1 hn8) ?_
  refine S.cons (S.expr (E.app rfl E.con rfl ?_)) ?_
  · rw [List.length_map]
    have h1 := List.length_filter_le (bare ss) (lots n m ss)
    have h2 : (lots n m ss).length ≤ 256 := by
      refine Nat.le_trans (List.length_filter_le ..) ?_
      rw [(ssub_perm n).length_eq, subs_len]
      exact pow8 hn8
    omega
  refine S.cons (S.asg (t12 hn8) rfl) ?_
  refine S.cons (tS2 hn8) ?_
  refine S.cons e7 ?_
  refine S.cons (tS3 hn8 hW) ?_
  exact S.cons (tS4 hn8) S.nil
end
end K32

namespace K32
open Gn PySem
theorem law_ok (ns : List Int) (hl : ns.length ≤ 63) : ∃ outs, dfn T 24 27 [.list (ns.map .int)] = .ok (.bool true) outs := by
  obtain ⟨v, e1⟩ := cells_ok (ψ := dfn T 22) ns hl
  have e1 : ψ9 16 [.list (ns.map .int), .int 1] = .ok (.list [.int v]) [some (.list (ns.map .int)), some (.int 1)] := dfn_run (fd := fCells) rfl e1
  obtain ⟨t, e2, hb⟩ := box_ok (ψ := dfn T 22) v
  have e2 : ψ9 14 [.list [.int v], .int 0] = .ok t [some (.list [.int v]), some (.int 0)] := dfn_run (fd := fBox) rfl e2
  obtain ⟨δ', l1, t2, y2, y3, y4, y5, y6, y7, y8, y9, y10, y11, y12, y13, y14, rfl, hb2⟩ := dfor_inv (t := .name 2) (b := dxs ψ9 lawBody)
    (fun pre δ => ∃ t y2 y3 y4 y5 y6 y7 y8 y9 y10 y11 y12 y13 y14, δ = [some (.list (ns.map .int)), some t, y2, y3, y4, y5, y6, y7, y8, y9, y10, y11, y12, y13, y14] ∧ Box (1000 * pre.length) t) (rngD 0 2) [] [some (.list (ns.map .int)), some t, none, none, none, none, none, none, none, none, none, none, none, none, none] ⟨t, _, _, _, _, _, _, _, _, _, _, _, _, _, rfl, hb⟩
    (fun pre d post δ e ⟨t, y2, y3, y4, y5, y6, y7, y8, y9, y10, y11, y12, y13, y14, hδ, hb⟩ => by
      have hlen := congrArg List.length e
      simp only [List.nil_append, rngD, List.length_cons, List.length_nil, List.length_append] at hlen
      subst hδ
      obtain ⟨t', z3, z4, z5, z6, z7, z8, z9, z10, z11, z12, z13, z14, e3, hb3⟩ := turn_ok (scr := .list (ns.map .int)) (x2 := some d) (x3 := y3) (x4 := y4) (x5 := y5) (x6 := y6) (x7 := y7) (x8 := y8) (x9 := y9) (x10 := y10) (x11 := y11) (x12 := y12) (x13 := y13) (x14 := y14) hb (by omega)
      refine ⟨_, rfl, _, .inl e3, t', some d, z3, z4, z5, z6, z7, z8, z9, z10, z11, z12, z13, z14, rfl, ?_⟩
      rw [List.length_append]
      exact hb3.mono (by simp only [List.length_cons, List.length_nil]; omega))
  rw [List.nil_append] at hb2
  obtain ⟨outs, e4⟩ := quick_right hb2 (by simp only [rngD, List.length_cons, List.length_nil]; omega)
  have e4 : ψ9 26 [t2] = .ok (.bool true) outs := e4
  obtain ⟨xs, rfl⟩ := hb2.list
  have fin : ∃ δ, dxs ψ9 f_law.body [some (.list (ns.map .int)), none, none, none, none, none, none, none, none, none, none, none, none, none, none] = .ok (.ret (.bool true)) δ := by
    refine ⟨[some (.list (ns.map .int)), outs.headD none, y2, y3, y4, y5, y6, y7, y8, y9, y10, y11, y12, y13, y14], ?_⟩
    refine S.cons (δ1 := [some (.list (ns.map .int)), some t, none, none, none, none, none, none, none, none, none, none, none, none, none]) (S.asg (E.call (E.aV (E.call (E.aR rfl (E.aF E.con E.aN)) rfl e1) (E.aV E.con E.aN)) rfl e2) rfl) ?_
    refine S.cons (S.for (E.iR E.con (by decide)) l1) ?_
    exact S.consR (S.ret (E.call (E.aR rfl E.aN) rfl e4))
  obtain ⟨δ, h⟩ := fin
  exact ⟨_, dfn_run (fd := f_law) rfl (run_ret rfl h)⟩
end K32

namespace K32
open Gn
open PySem PySem.Spec PyProof.Rows
abbrev R : PySem.W.OpenRow := PySem.W.OpenLaw.row PySem.Challenge.rw_sendershade_k32_sets_of_friends_lots_and
def cs : List PySem.Str := ["Unfit", "NoPaper"]
theorem argsOk : defs.all (fun r => argsC (L2.defArgs (stAt P r.pl)) r.ps) = true := by decide +kernel
def loose : List PySem.Str := cs ++ (defs.map (·.x)).filter (fun x => !(x == ("law" : PySem.Str)))
theorem run (w : World) : HandSHeadRun.RunEq R (PySem.W.view R.prog [33]) (hkL P defs cs) (obL P defs cs) 2000 loose w := by
  intro os
  kernel_rfl
theorem holds (law : ∀ ns : List Int, ns.length ≤ 63 → ∃ outs, dfn T 24 27 [.list (ns.map .int)] = .ok (.bool true) outs) : PySem.Challenge.rw_sendershade_k32_sets_of_friends_lots_and.Holds := by
  w_on; o_law
  refine HandSHeadRun.head_any (r := R) (q := PySem.W.view R.prog [33]) (H := hkL P defs cs) (ob := obL P defs cs) (M := 2000) (loose := loose) (d := HandSHeadRun.topDef R.prog 33) (kwd := []) (obL_eq P defs cs)
    (by kernel_rfl) (fun s => by kernel_rfl) run (by kernel_rfl) (by kernel_rfl) (by kernel_rfl) (by rfl) (by first | assumption | decide +kernel) (by decide +kernel) ⟨rfl, rfl, rfl, rfl, rfl, by decide +kernel⟩ ?hw ?hc
  case hw => w_witness2
  case hc =>
    exact walkL (l := PySem.Challenge.rw_sendershade_k32_sets_of_friends_lots_and) (n := 63) (k := 24) (f := 27) (P := P) (rs := defs) (T := T) (cs := cs) (x := "script") rfl (by decide) (by kernel_rfl) ⟨rfl, by decide, by decide⟩ rfl (by kernel_rfl) (by kernel_rfl) (by decide +kernel) argsOk
      fun ns hn => by
        obtain ⟨outs, e⟩ := law ns hn
        exact law_dfn (rf := true) kAll_ok (by rfl) e
end K32

theorem PySem.Challenge.cw_sendershade_k32_sets_of_friends_lots_and_holds : PySem.Challenge.rw_sendershade_k32_sets_of_friends_lots_and.Holds :=
  K32.holds K32.law_ok
