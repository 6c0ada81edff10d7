import PyProof.Rows.All
import Wide.All
import OpenK.AllK
import Wide.FinOn
import HandS.ForMost
import HandS.Wide
import HandS.TupAny
import HandS.TupMul
import HandS.Style
import HandS.Deep
import KE.KDictKeyed
import KE.SortData
import PyProof.P3In
import HandS.TupLe
import HandS.Flow
import HandS.Zip
import HandS.Walk
import HandS.IsInst
import HandS.More
import HandS.Codes
import HandS.TupLen
import KE.KStateDown
import HandS.Ends
import HandS.Words
import HandS.WordsExc
import HandS.Defaults
import HandS.Head0
import HandS.Head1
import HandS.Head2
import HandS.HeadEnd
import HandS.HeadHook1
import HandS.HeadHook2
import PySem.Challenge.RW_goalhelm_k01_what_is_a_world
set_option Elab.async false
set_option linter.all false
set_option maxRecDepth 100000
set_option maxHeartbeats 0
/-! The small language: values, stores, syntax, its reading. -/
namespace G
open PySem L2

/-! ### values -/
inductive D where
  | non | bl (b : Bool) | int (i : Int) | str (x : Str)
  | tup (xs : List D) | lst (xs : List D) | dct (kvs : List (D × D))
  | ins (c : Str) (fs : List (Str × D)) | loc (a : Addr) | clo (n : Nat)
  /-- a list that is never changed (the script) -/
  | ro (xs : List D)
  deriving Inhabited

namespace D
mutual
def eqv : D → D → Bool
  | .non, .non => true
  | .bl a, .bl b => a == b
  | .int a, .int b => decide (a = b)
  | .bl a, .int b => decide ((if a then 1 else 0) = b)
  | .int a, .bl b => decide (a = (if b then 1 else 0))
  | .str a, .str b => decide (a = b)
  | .tup a, .tup b => eqvs a b
  | .lst a, .lst b => eqvs a b
  | _, _ => false
def eqvs : List D → List D → Bool
  | [], [] => true
  | a :: as, b :: bs => eqv a b && eqvs as bs
  | _, _ => false
end
mutual
/-- plain data, at most so deep -/
def dat : Nat → D → Bool
  | _, .non => true
  | _, .bl _ => true
  | _, .int _ => true
  | _, .str x => PyData.strOk x
  | n, .tup xs => match n with | 0 => false | n + 1 => dats n xs
  | n, .lst xs => match n with | 0 => false | n + 1 => dats n xs
  | _, _ => false
def dats : Nat → List D → Bool
  | _, [] => true
  | n, x :: xs => dat n x && dats n xs
end
mutual
/-- the order of data of one kind -/
def lt : D → D → Bool
  | .int a, .int b => decide (a < b)
  | .str a, .str b => decide (a.cps.toList < b.cps.toList)
  | .tup a, .tup b => lts a b
  | _, _ => false
def lts : List D → List D → Bool
  | [], [] => false
  | [], _ :: _ => true
  | _ :: _, [] => false
  | a :: as, b :: bs => if eqv a b then lts as bs else lt a b
end
mutual
/-- data of one kind: they can be put in order -/
def alike : D → D → Bool
  | .int _, .int _ => true
  | .str _, .str _ => true
  | .tup a, .tup b => alikes a b
  | _, _ => false
def alikes : List D → List D → Bool
  | a :: as, b :: bs => alike a b && alikes as bs
  | _, _ => true
end
end D

/-! ### the store of what can change -/
inductive Ob where
  | lst (xs : List D) | dct (kvs : List (D × D)) | ins (c : Str) (fs : List (Str × D))
abbrev Store := Addr → Option Ob
def Store.set (st : Store) (a : Addr) (o : Ob) : Store := fun b => if b = a then some o else st b
abbrev Env := List (Option D)
abbrev Post := D → Store → Prop
/-- an exception: its class, its field -/
abbrev XPost := Str → Option D → Store → Prop
abbrev Spec := List D → Store → Post → XPost → Prop
structure Ctx where
  fn : Str → Option Spec
  me : Str → Str → Option Spec
  gl : Str → Option D
  /-- the attributes of a class's instances -/
  cf : Str → Str → Bool
  cl : Nat → Spec

/-! ### syntax -/
mutual
inductive Pt where
  | var (i : Nat) | tup (ps : Pts)
inductive Pts where
  | nil | cons (p : Pt) (ps : Pts)
end
/-- what built-ins give that change nothing -/
inductive Bi where
  | len | tuple | max | min | all | any | int | sum
  deriving DecidableEq
inductive Ty where
  | int | bool | str | tuple | list | cls (c : Str)
  deriving DecidableEq
mutual
inductive E where
  | var (i : Nat) | non | bl (b : Bool) | int (i : Int) | str (x : Str) | glo (x : Str)
  | tup (es : Es)
  | fr (p : P) | bx (p : P)
  | bin (o : Operator) (a b : E) | neg (a : E)
  | cmp (o : CmpOp) (a b : E) | cmp2 (o o' : CmpOp) (a b c : E)
  | bop (isAnd : Bool) (es : Es) | orv (a b : E) | not (a : E) | ite (t a b : E)
  | idx (a i : E) | slc (a : E) (lo hi : Bd) | rev (a : E)
  | bi (b : Bi) (a : E) | mx (isMax : Bool) (a b : E) | isi (a : E) (ts : List Ty)
  | app (o e : E) | pop (o : E) | popAt (o i : E) | ins (o i e : E)
  | upper (o : E) | join (o e : E) | get (o i : E) | getd (o i e : E) | setd (o i e : E) | upd (o e : E)
  | att (o : E) (f : Str)
  | call (f : Str) (es : Es) | mcl (c m : Str) (o : E) (es : Es) | new (c : Str) (es : Es) | clv (i : Nat) (es : Es)
  | frz (e : E)
/-- what makes a new list or dict -/
inductive P where
  | disp (es : Es) | cat (a b : E) | rep (a n : E) | slc (a : E) (lo hi : Bd) | rev (a : E) | list (a : E) | sorted (a : E)
  | comp (own : List Nat) (p : Pt) (it : It) (elt : E) | compif (own : List Nat) (p : Pt) (it : It) (c : E) (elt : E)
inductive Es where
  | nil | cons (e : E) (es : Es)
/-- a slice's bound -/
inductive Bd where
  | no | at (e : E)
/-- what is walked; nob: no bound -/
inductive It where
  | of (e : E) | range1 (e : E) | range2 (a b : E) | zip (a b : E) | enum (a : E) | items (a : E) | keys (a : E)
end
mutual
inductive S where
  | exp (e : E) | asg (p : Pt) (e : E) | par (is : List Nat) (es : Es)
  | sto (o i e : E) | slst (o lo hi e : E) | fld (o : E) (f : Str) (e : E)
  | aug (i : Nat) (o : Operator) (e : E) | augs (o i : E) (op : Operator) (e : E)
  | ret (e : E) | retN | ife (c : E) (a b : Ss) | for (p : Pt) (it : It) (b : Ss) | whl (c : E) (b : Ss)
  | brk | cnt | pass | never
  | gfz (i : Nat)
inductive Ss where
  | nil | cons (s : S) (ss : Ss)
end

/-! ### the reading of operators -/
section
variable (st : Store)
def seqOf : D → Option (List D)
  | .tup xs => some xs
  | .lst xs => some xs
  | .ro xs => some xs
  | .loc a => match st a with | some (.lst xs) => some xs | _ => none
  | _ => none
def lstOf : D → Option (List D)
  | .lst xs => some xs
  | .loc a => match st a with | some (.lst xs) => some xs | _ => none
  | _ => none
def dctOf : D → Option (List (D × D))
  | .dct kvs => some kvs
  | .loc a => match st a with | some (.dct kvs) => some kvs | _ => none
  | _ => none
def insOf : D → Option (Str × List (Str × D))
  | .ins c fs => some (c, fs)
  | .loc a => match st a with | some (.ins c fs) => some (c, fs) | _ => none
  | _ => none
/-- a list in the store told by what it holds -/
def rsv : D → D
  | .loc a => match st a with | some (.lst xs) => .lst xs | _ => .loc a
  | d => d
def truth : D → Option Bool
  | .non => some false
  | .bl b => some b
  | .int i => some (decide (i ≠ 0))
  | .str x => if x.length ≤ 1000 then some (x.length != 0) else none
  | .tup xs => some !xs.isEmpty
  | .lst xs => some !xs.isEmpty
  | _ => none
end
/-- the value at a key -/
def look (kvs : List (D × D)) (k : D) : Option D := (kvs.find? fun p => p.1.eqv k).map (·.2)
/-- the pairs behind a store -/
def put (kvs : List (D × D)) (k v : D) : List (D × D) :=
  if (look kvs k).isSome then kvs.map fun p => if p.1.eqv k then (p.1, v) else p else kvs ++ [(k, v)]
mutual
/-- data without lists have a key -/
def D.hashB : D → Bool
  | .non => true
  | .bl _ => true
  | .int _ => true
  | .str _ => true
  | .tup xs => D.hashBs xs
  | _ => false
def D.hashBs : List D → Bool
  | [] => true
  | x :: xs => D.hashB x && D.hashBs xs
end
/-- a key: a tuple of data that hash -/
def isKey (d : D) : Bool := match d with | .tup _ => d.dat 8 && d.hashB | _ => false
def MulOk (i j : Int) : Prop := CMul i j ∨ CMulW i j
def opR : Operator → D → D → (D → Prop) → Prop
  | .Add, .int i, .int j, k => k (.int (i + j))
  | .Add, .str x, .str y, k => x.length + y.length ≤ sizeLine ∧ k (.str (x ++ y))
  | .Add, .tup x, .tup y, k => x.length + y.length ≤ sizeLine ∧ k (.tup (x ++ y))
  | .Add, .bl a, .int j, k => k (.int ((if a = true then 1 else 0) + j))
  | .Sub, .int i, .int j, k => k (.int (i - j))
  | .Sub, .bl a, .int j, k => k (.int ((if a = true then 1 else 0) - j))
  | .Sub, .int i, .bl b, k => k (.int (i - if b = true then 1 else 0))
  | .Mult, .int i, .bl b, k => k (.int (i * if b = true then 1 else 0))
  | .Mult, .int i, .int j, k => MulOk i j ∧ k (.int (i * j))
  | .Mult, .tup x, .int j, k => x ≠ [] ∧ 2 ≤ j ∧ j ≤ 1000 ∧ x.length ≤ 1000 ∧ k (.tup (List.replicate j.toNat x).flatten)
  | .Mod, .int i, .int j, k => 0 < j ∧ k (.int (i % j))
  | .FloorDiv, .int i, .int j, k => (0 < j ∧ j < 1073741824) ∧ k (.int (i / j))
  | .Pow, .int i, .int j, k => CPow i j ∧ k (.int (i ^ j.toNat))
  | _, _, _, _ => False
def cmpR (st : Store) : CmpOp → D → D → (Bool → Prop) → Prop
  | .Eq, a, b, k => (rsv st a).dat 60 ∧ (rsv st b).dat 60 ∧ k ((rsv st a).eqv (rsv st b))
  | .NotEq, a, b, k => (rsv st a).dat 60 ∧ (rsv st b).dat 60 ∧ k (!(rsv st a).eqv (rsv st b))
  | .Lt, a, b, k => a.dat 60 ∧ b.dat 60 ∧ a.alike b ∧ k (a.lt b)
  | .LtE, .int a, .int b, k => k (decide (a ≤ b))
  | .Gt, .int a, .int b, k => k (decide (b < a))
  | .GtE, .int a, .int b, k => k (decide (b ≤ a))
  | .Is, a, b, k => b = .non ∧ k (match a with | .non => true | _ => false)
  | .IsNot, a, b, k => b = .non ∧ k (match a with | .non => false | _ => true)
  | .In, a, b, k => match b with
    | .str y => ∃ x, a = .str x ∧ k (!(Builtin.Str.occurrences y x 0 y.length 1).isEmpty)
    | b => (∃ xs, seqOf st b = some xs ∧ a.dat 60 ∧ D.dats 60 xs ∧ k (xs.any fun x => x.eqv a)) ∨ (∃ kvs, dctOf st b = some kvs ∧ isKey a ∧ k (look kvs a).isSome)
  | .LtE, _, _, _ => False
  | .Gt, _, _, _ => False
  | .GtE, _, _, _ => False
  | .NotIn, a, b, k => match b with
    | .str y => ∃ x, a = .str x ∧ k (Builtin.Str.occurrences y x 0 y.length 1).isEmpty
    | b => (∃ xs, seqOf st b = some xs ∧ a.dat 60 ∧ D.dats 60 xs ∧ k (!xs.any fun x => x.eqv a)) ∨ (∃ kvs, dctOf st b = some kvs ∧ isKey a ∧ k (!(look kvs a).isSome))
def idxR (st : Store) (a i : D) (k : D → Prop) : Prop :=
  (∃ xs j d, seqOf st a = some xs ∧ i = .int j ∧ atI xs j = some d ∧ k d) ∨
  (∃ kvs d, dctOf st a = some kvs ∧ isKey i ∧ look kvs i = some d ∧ k d)
def cutD (xs : List D) (lo hi : Option Int) : List D := (xs.drop (HT.sIx xs.length 0 lo)).take (HT.sIx xs.length xs.length hi - HT.sIx xs.length 0 lo)
/-- a slice of a tuple, a text, a list that stands still -/
def slcR (a : D) (l h : Option Int) (k : D → Prop) : Prop := match a with
  | .tup xs => k (.tup (cutD xs l h))
  | .str x => x.length ≤ sizeLine ∧ k (.str (cutS x l h))
  | .lst xs => k (.lst (cutD xs l h))
  | _ => False
def slcL (st : Store) (a : D) (l h : Option Int) (k : List D → Prop) : Prop := ∃ xs, lstOf st a = some xs ∧ k (cutD xs l h)
def revR (a : D) (k : D → Prop) : Prop := match a with
  | .tup xs => k (.tup xs.reverse)
  | _ => False
def intsD : List D → Option (List Int)
  | [] => some []
  | .int i :: r => (intsD r).map (i :: ·)
  | _ => none
def boolsD : List D → Option (List Bool)
  | [] => some []
  | .bl i :: r => (boolsD r).map (i :: ·)
  | _ => none
/-- the first greatest one -/
def maxL : List D → Option D
  | [] => none
  | d :: ds => some (ds.foldl (fun m x => if m.lt x then x else m) d)
def minL : List D → Option D
  | [] => none
  | d :: ds => some (ds.foldl (fun m x => if x.lt m then x else m) d)
def allAlike (xs : List D) : Prop := ∀ x ∈ xs, ∀ y ∈ xs, x.alike y = true
def biR (st : Store) (b : Bi) (a : D) (k : D → Prop) : Prop := match b with
  | .len => (∃ xs, seqOf st a = some xs ∧ k (.int xs.length)) ∨ (∃ x, a = .str x ∧ x.length ≤ sizeLine ∧ k (.int x.length)) ∨ (∃ kvs, dctOf st a = some kvs ∧ kvs.length ≤ sizeLine ∧ k (.int kvs.length))
  | .tuple => ∃ xs, seqOf st a = some xs ∧ k (.tup xs)
  | .all => ∃ xs bs, lstOf st a = some xs ∧ boolsD xs = some bs ∧ k (.bl (bs.all id))
  | .any => ∃ xs bs, lstOf st a = some xs ∧ boolsD xs = some bs ∧ k (.bl (bs.any id))
  | .sum => ∃ xs bs, lstOf st a = some xs ∧ intsD xs = some bs ∧ k (.int bs.sum)
  | .int => (∃ i, a = .int i ∧ k (.int i)) ∨ (∃ b, a = .bl b ∧ k (.int (if b then 1 else 0)))
  | .max => ∃ xs m, lstOf st a = some xs ∧ D.dats 60 xs ∧ allAlike xs ∧ maxL xs = some m ∧ k m
  | .min => ∃ xs m, lstOf st a = some xs ∧ D.dats 60 xs ∧ allAlike xs ∧ minL xs = some m ∧ k m
def mxR (isMax : Bool) (a b : D) (k : D → Prop) : Prop := ∃ i j, a = .int i ∧ b = .int j ∧ k (.int (if isMax then (if j > i then j else i) else (if j < i then j else i)))
def isTy : Ty → D → Option Bool
  | .cls _, _ => none
  | t, .non => some false
  | t, .bl _ => some (t == .bool || t == .int)
  | t, .int _ => some (t == .int)
  | t, .str _ => some (t == .str)
  | t, .tup _ => some (t == .tuple)
  | t, .lst _ => some (t == .list)
  | _, _ => none
def isTys : List Ty → D → Option Bool
  | [], _ => some false
  | t :: ts, d => match isTy t d, isTys ts d with | some a, some b => some (a || b) | _, _ => none
def strsD : List D → Option (List Str)
  | [] => some []
  | .str i :: r => (strsD r).map (i :: ·)
  | _ => none
/-- o[i] = d -/
def stoR (ob : Ob) (i d : D) (k : Ob → Prop) : Prop := match ob with
  | .lst xs => ∃ j n, i = .int j ∧ ixN xs.length j = some n ∧ k (.lst (xs.set n d))
  | .dct kvs => isKey i ∧ kvs.length < sizeLine ∧ k (.dct (put kvs i d))
  | _ => False
def rangeL (lo : Int) (n : Nat) : List D := (List.range n).map fun (i : Nat) => .int (lo + i)
def items1 : D → Option (List D)
  | .tup xs => some xs
  | .lst xs => some xs
  | .str x => some (x.cps.toList.map fun c => .str ⟨#[c]⟩)
  | _ => none
def zipD : List D → List D → List D
  | a :: as, b :: bs => .tup [a, b] :: zipD as bs
  | _, _ => []

/-! ### targets -/
mutual
def asg : Pt → D → Env → (Env → Prop) → Prop
  | .var i, d, ρ, k => k (ρ.set i (some d))
  | .tup ps, d, ρ, k => match d with | .tup xs => asgs ps xs ρ k | _ => False
def asgs : Pts → List D → Env → (Env → Prop) → Prop
  | .nil, ds, ρ, k => match ds with | [] => k ρ | _ => False
  | .cons p ps, ds, ρ, k => match ds with | d :: ds => asg p d ρ fun ρ1 => asgs ps ds ρ1 k | [] => False
end
def wipeE (ρ : Env) : List Nat → Env
  | [] => ρ
  | v :: vs => (wipeE ρ vs).set v none

/-! ### deep freezing -/
mutual
inductive Fz (st st' : Store) : D → D → Prop where
  | refl (d : D) : Fz st st' d d
  | tup {xs ys : List D} : Fzs st st' xs ys → Fz st st' (.tup xs) (.tup ys)
  | lst {xs ys : List D} : Fzs st st' xs ys → Fz st st' (.lst xs) (.lst ys)
  | loc {a : Addr} {xs ys : List D} : st a = some (.lst xs) → st' a = none → Fzs st st' xs ys → Fz st st' (.loc a) (.lst ys)
  | dct {a : Addr} {kvs ws : List (D × D)} : st a = some (.dct kvs) → st' a = none → Fzk st st' kvs ws → Fz st st' (.loc a) (.dct ws)
  | ins {a : Addr} {c : Str} {fs gs : List (Str × D)} : st a = some (.ins c fs) → st' a = none → Fzf st st' fs gs → Fz st st' (.loc a) (.ins c gs)
inductive Fzs (st st' : Store) : List D → List D → Prop where
  | nil : Fzs st st' [] []
  | cons {x y : D} {xs ys : List D} : Fz st st' x y → Fzs st st' xs ys → Fzs st st' (x :: xs) (y :: ys)
inductive Fzk (st st' : Store) : List (D × D) → List (D × D) → Prop where
  | nil : Fzk st st' [] []
  | cons {k x y : D} {xs ys : List (D × D)} : Fz st st' x y → Fzk st st' xs ys → Fzk st st' ((k, x) :: xs) ((k, y) :: ys)
inductive Fzf (st st' : Store) : List (Str × D) → List (Str × D) → Prop where
  | nil : Fzf st st' [] []
  | cons {k : Str} {x y : D} {xs ys : List (Str × D)} : Fz st st' x y → Fzf st st' xs ys → Fzf st st' ((k, x) :: xs) ((k, y) :: ys)
end

/-! ### the reading -/
/-- the turns of a comprehension -/
def turns (f : D → Store → (Option D → Store → Prop) → Prop) : List D → Store → List D → (List D → Store → Prop) → Prop
  | [], st, acc, Q => Q acc st
  | d :: ds, st, acc, Q => f d st fun o st' => match o with
    | some x => acc.length < sizeLine ∧ turns f ds st' (acc ++ [x]) Q
    | none => turns f ds st' acc Q
section
variable (Γ : Ctx) (X : XPost)
mutual
def den : E → Env → Store → Post → Prop
  | .var i, ρ, st, Q => match ρ[i]? with | some (some d) => Q d st | _ => False
  | .non, _, st, Q => Q .non st
  | .bl b, _, st, Q => Q (.bl b) st
  | .int i, _, st, Q => Q (.int i) st
  | .str x, _, st, Q => Q (.str x) st
  | .glo x, _, st, Q => match Γ.gl x with | some d => Q d st | none => False
  | .tup es, ρ, st, Q => denEs es ρ st fun ds st1 => ds.length ≤ sizeLine ∧ Q (.tup ds) st1
  | .fr p, ρ, st, Q => denP p ρ st fun o st1 => match o with
    | .lst ds => Q (.lst ds) st1
    | .dct kvs => Q (.dct kvs) st1
    | _ => False
  | .bx p, ρ, st, Q => denP p ρ st fun o st1 => ∀ a, st1 a = none → Q (.loc a) (st1.set a o)
  | .bin o a b, ρ, st, Q => den a ρ st fun x st1 => den b ρ st1 fun y st2 => opR o x y fun z => Q z st2
  | .neg a, ρ, st, Q => den a ρ st fun x st1 => ∃ i, x = .int i ∧ Q (.int (-i)) st1
  | .cmp o a b, ρ, st, Q => den a ρ st fun x st1 => den b ρ st1 fun y st2 => cmpR st2 o x y fun z => Q (.bl z) st2
  | .cmp2 o o' a b c, ρ, st, Q => den a ρ st fun x st1 => den b ρ st1 fun y st2 => cmpR st2 o x y fun z =>
      if z = true then den c ρ st2 fun w st3 => cmpR st3 o' y w fun z' => Q (.bl z') st3 else Q (.bl false) st2
  | .bop isAnd es, ρ, st, Q => denB isAnd es ρ st Q
  | .orv a b, ρ, st, Q => den a ρ st fun d st1 => ∃ t, truth d = some t ∧ (if t = false then den b ρ st1 Q else Q d st1)
  | .not a, ρ, st, Q => den a ρ st fun x st1 => ∃ b, x = .bl b ∧ Q (.bl (!b)) st1
  | .ite t a b, ρ, st, Q => den t ρ st fun x st1 => ∃ c, x = .bl c ∧ (if c = true then den a ρ st1 Q else den b ρ st1 Q)
  | .idx a i, ρ, st, Q => den a ρ st fun x st1 => den i ρ st1 fun y st2 => idxR st2 x y fun z => Q z st2
  | .slc a lo hi, ρ, st, Q => den a ρ st fun x st1 => denO lo ρ st1 fun y st2 => denO hi ρ st2 fun z st3 => slcR x y z fun r => Q r st3
  | .rev a, ρ, st, Q => den a ρ st fun x st1 => revR x fun r => Q r st1
  | .bi b a, ρ, st, Q => den a ρ st fun x st1 => biR st1 b x fun r => Q r st1
  | .mx m a b, ρ, st, Q => den a ρ st fun x st1 => den b ρ st1 fun y st2 => mxR m x y fun r => Q r st2
  | .isi a ts, ρ, st, Q => den a ρ st fun x st1 => match isTys ts (rsv st1 x) with | some b => Q (.bl b) st1 | none => False
  | .app o e, ρ, st, Q => den o ρ st fun x st1 => ∃ a zs, x = .loc a ∧ st1 a = some (.lst zs) ∧ den e ρ st1 fun d st2 => ∃ xs, st2 a = some (.lst xs) ∧ xs.length < sizeLine ∧ Q .non (st2.set a (.lst (xs ++ [d])))
  | .pop o, ρ, st, Q => den o ρ st fun x st1 => ∃ a xs d, x = .loc a ∧ st1 a = some (.lst xs) ∧ xs.getLast? = some d ∧ Q d (st1.set a (.lst xs.dropLast))
  | .popAt o i, ρ, st, Q => den o ρ st fun x st1 => ∃ a zs, x = .loc a ∧ st1 a = some (.lst zs) ∧ den i ρ st1 fun y st2 => ∃ (xs : List D) (j : Nat) (d : D), st2 a = some (.lst xs) ∧ y = .int j ∧ j < 1000000 ∧ xs[j]? = some d ∧ Q d (st2.set a (.lst (xs.eraseIdx j)))
  | .ins o i e, ρ, st, Q => den o ρ st fun x st1 => ∃ a zs, x = .loc a ∧ st1 a = some (.lst zs) ∧ den i ρ st1 fun y st2 => den e ρ st2 fun d st3 => ∃ (xs : List D) (j : Nat), st3 a = some (.lst xs) ∧ y = .int j ∧ j < 1000000 ∧ xs.length < sizeLine ∧
      Q .non (st3.set a (.lst (xs.take j ++ [d] ++ xs.drop j)))
  | .upper o, ρ, st, Q => den o ρ st fun x st1 => ∃ z, x = .str z ∧ z.length ≤ 1000 ∧ Q (.str (Txt.upper z)) st1
  | .join o e, ρ, st, Q => den o ρ st fun x st1 => ∃ z, x = .str z ∧ den e ρ st1 fun y st2 => ∃ xs ys, lstOf st2 y = some xs ∧ strsD xs = some ys ∧ (ys.map (·.length)).sum + ys.length * z.length ≤ 1000000 ∧ Q (.str (Txt.join z ys)) st2
  | .get o i, ρ, st, Q => den o ρ st fun x st1 => ∃ zs, dctOf st1 x = some zs ∧ den i ρ st1 fun y st2 => ∃ kvs, dctOf st2 x = some kvs ∧ isKey y ∧ Q ((look kvs y).getD .non) st2
  | .getd o i e, ρ, st, Q => den o ρ st fun x st1 => ∃ zs, dctOf st1 x = some zs ∧ den i ρ st1 fun y st2 => den e ρ st2 fun d st3 => ∃ kvs, dctOf st3 x = some kvs ∧ isKey y ∧ Q ((look kvs y).getD d) st3
  | .setd o i e, ρ, st, Q => den o ρ st fun x st1 => ∃ a zs, x = .loc a ∧ st1 a = some (.dct zs) ∧ den i ρ st1 fun y st2 => den e ρ st2 fun d st3 => ∃ kvs, st3 a = some (.dct kvs) ∧ isKey y ∧ kvs.length < sizeLine ∧
      match look kvs y with | some v => Q v st3 | none => Q d (st3.set a (.dct (put kvs y d)))
  | .upd o e, ρ, st, Q => den o ρ st fun x st1 => ∃ a zs, x = .loc a ∧ st1 a = some (.dct zs) ∧ den e ρ st1 fun y st2 => ∃ kvs more, st2 a = some (.dct kvs) ∧ y = .dct more ∧ kvs.length + more.length < sizeLine ∧
      Q .non (st2.set a (.dct (more.foldl (fun m p => put m p.1 p.2) kvs)))
  | .att o f, ρ, st, Q => den o ρ st fun x st1 => ∃ c fs d, insOf st1 x = some (c, fs) ∧ Γ.cf c f = true ∧ fs.lookup f = some d ∧ Q d st1
  | .call f es, ρ, st, Q => denEs es ρ st fun ds st1 => match Γ.fn f with | some sp => sp ds st1 Q X | none => False
  | .mcl c m o es, ρ, st, Q => den o ρ st fun x st1 => ∃ fs, insOf st1 x = some (c, fs) ∧ fs.lookup m = none ∧ denEs es ρ st1 fun ds st2 => match Γ.me c m with | some sp => sp (x :: ds) st2 Q X | none => False
  | .new c es, ρ, st, Q => denEs es ρ st fun ds st1 => ∀ a, st1 a = none → match Γ.me c "__init__" with | some sp => sp (.loc a :: ds) (st1.set a (.ins c [])) (fun d st2 => d = .non ∧ Q (.loc a) st2) X | none => False
  | .clv i es, ρ, st, Q => denEs es ρ st fun ds st1 => match ρ[i]? with | some (some (.clo n)) => Γ.cl n ds st1 Q X | _ => False
  | .frz e, ρ, st, Q => den e ρ st fun x st1 => ∃ st2 y, (∀ a o, st2 a = some o → st1 a = some o) ∧ Fz st1 st2 x y ∧ Q y st2
def denP : P → Env → Store → (Ob → Store → Prop) → Prop
  | .disp es, ρ, st, Q => denEs es ρ st fun ds st1 => ds.length ≤ sizeLine ∧ Q (.lst ds) st1
  | .cat a b, ρ, st, Q => den a ρ st fun x st1 => den b ρ st1 fun y st2 => ∃ xs ys, lstOf st2 x = some xs ∧ lstOf st2 y = some ys ∧ xs.length + ys.length ≤ sizeLine ∧ Q (.lst (xs ++ ys)) st2
  | .rep a n, ρ, st, Q => den a ρ st fun x st1 => den n ρ st1 fun y st2 => ∃ xs j, lstOf st2 x = some xs ∧ y = .int j ∧ 0 < j ∧ j ≤ 100 ∧ xs.length ≤ 1000 ∧ Q (.lst (List.replicate j.toNat xs).flatten) st2
  | .slc a lo hi, ρ, st, Q => den a ρ st fun x st1 => denO lo ρ st1 fun y st2 => denO hi ρ st2 fun z st3 => slcL st3 x y z fun r => Q (.lst r) st3
  | .rev a, ρ, st, Q => den a ρ st fun x st1 => ∃ xs, lstOf st1 x = some xs ∧ Q (.lst xs.reverse) st1
  | .list a, ρ, st, Q => den a ρ st fun x st1 => ∃ xs, seqOf st1 x = some xs ∧ Q (.lst xs) st1
  | .sorted a, ρ, st, Q => den a ρ st fun x st1 => ∃ xs, (lstOf st1 x = some xs ∨ ∃ kvs, dctOf st1 x = some kvs ∧ xs = kvs.map (·.1)) ∧ D.dats 60 xs ∧ allAlike xs ∧ xs.length ≤ sizeLine ∧ Q (.lst (xs.mergeSort fun a b => !b.lt a)) st1
  | .comp own p it elt, ρ, st, Q => denI it ρ st fun ds st1 =>
      turns (fun d st k => asg p d (wipeE ρ own) fun ρ1 => den elt ρ1 st fun x st2 => k (some x) st2) ds st1 [] fun xs st2 => Q (.lst xs) st2
  | .compif own p it c elt, ρ, st, Q => denI it ρ st fun ds st1 =>
      turns (fun d st k => asg p d (wipeE ρ own) fun ρ1 => den c ρ1 st fun t st1 => ∃ b, t = .bl b ∧ (if b = true then den elt ρ1 st1 fun x st2 => k (some x) st2 else k none st1)) ds st1 [] fun xs st2 => Q (.lst xs) st2
def denO : Bd → Env → Store → (Option Int → Store → Prop) → Prop
  | .no, _, st, Q => Q none st
  | .at e, ρ, st, Q => den e ρ st fun d st1 => ∃ i, d = .int i ∧ Q (some i) st1
def denEs : Es → Env → Store → (List D → Store → Prop) → Prop
  | .nil, _, st, Q => Q [] st
  | .cons e es, ρ, st, Q => den e ρ st fun d st1 => denEs es ρ st1 fun ds st2 => Q (d :: ds) st2
/-- and, or; of none: True -/
def denB : Bool → Es → Env → Store → Post → Prop
  | _, .nil, _, st, Q => Q (.bl true) st
  | isAnd, .cons e es, ρ, st, Q => match es with
    | .nil => den e ρ st Q
    | .cons _ _ => den e ρ st fun d st1 => ∃ b, d = .bl b ∧ (if b = isAnd then denB isAnd es ρ st1 Q else Q d st1)
def denI : It → Env → Store → (List D → Store → Prop) → Prop
  | .of e, ρ, st, Q => den e ρ st fun d st1 => match items1 d with | some xs => Q xs st1 | none => False
  | .range1 e, ρ, st, Q => den e ρ st fun d st1 => ∃ n, d = .int n ∧ (-(2 ^ 62) ≤ n ∧ n < 2 ^ 62) ∧ Q (rangeL 0 n.toNat) st1
  | .range2 a b, ρ, st, Q => den a ρ st fun d st1 => den b ρ st1 fun d' st2 => ∃ lo hi, d = .int lo ∧ d' = .int hi ∧ (-(2 ^ 62) ≤ lo ∧ lo < 2 ^ 62 ∧ -(2 ^ 62) ≤ hi ∧ hi < 2 ^ 62) ∧ Q (rangeL lo (hi - lo).toNat) st2
  | .zip a b, ρ, st, Q => den a ρ st fun x st1 => den b ρ st1 fun y st2 => ((∃ xs ys, x = .lst xs ∧ y = .lst ys ∧ Q (zipD xs ys) st2) ∨ ∃ xs ys, x = .tup xs ∧ y = .tup ys ∧ Q (zipD xs ys) st2)
  | .enum a, ρ, st, Q => den a ρ st fun x st1 => ∃ xs, x = .tup xs ∧ Q (zipD (rangeL 0 xs.length) xs) st1
  | .items a, ρ, st, Q => den a ρ st fun x st1 => ∃ kvs, x = .dct kvs ∧ Q (kvs.map fun p => .tup [p.1, p.2]) st1
  | .keys a, ρ, st, Q => den a ρ st fun x st1 => ∃ kvs, x = .dct kvs ∧ Q (kvs.map fun p => p.1) st1
end
end

/-- what is wanted behind a statement -/
structure Kn where
  nx : Env → Store → Prop
  rt : Post
  bk : Env → Store → Prop := fun _ _ => False
  ct : Env → Store → Prop := fun _ _ => False
/-- a for over items -/
def forL (p : Pt) (f : Env → Store → Kn → Prop) (K : Kn) : List D → Env → Store → Prop
  | [], ρ, st => K.nx ρ st
  | d :: ds, ρ, st => asg p d ρ fun ρ1 => f ρ1 st { nx := forL p f K ds, rt := K.rt, bk := K.nx, ct := forL p f K ds }
/-- a while of at most so many turns -/
def whlN (c : Env → Store → Post → Prop) (f : Env → Store → Kn → Prop) (K : Kn) : Nat → Env → Store → Prop
  | 0, _, _ => False
  | n + 1, ρ, st => c ρ st fun d st1 => ∃ b, d = .bl b ∧ (if b = true then f ρ st1 { nx := whlN c f K n, rt := K.rt, bk := K.nx, ct := whlN c f K n } else K.nx ρ st1)
def setAll : List Nat → List D → Env → Env
  | i :: is, d :: ds, ρ => setAll is ds (ρ.set i (some d))
  | _, _, ρ => ρ
def putF (f : Str) (d : D) : List (Str × D) → List (Str × D)
  | [] => [(f, d)]
  | p :: r => if p.1 = f then (f, d) :: r else p :: putF f d r
section
variable (Γ : Ctx) (X : XPost)
mutual
def denS : S → Kn → Env → Store → Prop
  | .exp e, K, ρ, st => den Γ X e ρ st fun _ st1 => K.nx ρ st1
  | .asg p e, K, ρ, st => den Γ X e ρ st fun d st1 => asg p d ρ fun ρ1 => K.nx ρ1 st1
  | .par is es, K, ρ, st => denEs Γ X es ρ st fun ds st1 => ds.length = is.length ∧ K.nx (setAll is ds ρ) st1
  | .sto o i e, K, ρ, st => den Γ X e ρ st fun d st1 => den Γ X o ρ st1 fun x st2 => den Γ X i ρ st2 fun y st3 => ∃ a ob, x = .loc a ∧ st3 a = some ob ∧ stoR ob y d fun ob' => K.nx ρ (st3.set a ob')
  | .slst o lo hi e, K, ρ, st => den Γ X e ρ st fun d st1 => den Γ X o ρ st1 fun x st2 => den Γ X lo ρ st2 fun y st3 => den Γ X hi ρ st3 fun z st4 => ∃ a xs ys l h, x = .loc a ∧ st4 a = some (.lst xs) ∧ d = .lst ys ∧
      y = .int (Nat.cast l) ∧ z = .int (Nat.cast h) ∧ l ≤ h ∧ l ≤ xs.length ∧ xs.length + ys.length < sizeLine ∧ K.nx ρ (st4.set a (.lst (xs.take l ++ ys ++ xs.drop h)))
  | .fld o f e, K, ρ, st => den Γ X e ρ st fun d st1 => den Γ X o ρ st1 fun x st2 => ∃ a c fs, x = .loc a ∧ st2 a = some (.ins c fs) ∧ Γ.cf c f = true ∧ fs.length < 100 ∧ K.nx ρ (st2.set a (.ins c (putF f d fs)))
  | .aug i o e, K, ρ, st => match ρ[i]? with
    | some (some x) => den Γ X e ρ st fun y st1 => ∃ m n, x = .int m ∧ y = .int n ∧ opR o x y fun z => K.nx (ρ.set i (some z)) st1
    | _ => False
  | .augs o i op e, K, ρ, st => den Γ X o ρ st fun x st1 => den Γ X i ρ st1 fun y st2 => idxR st2 x y fun u => den Γ X e ρ st2 fun v st3 => opR op u v fun z => ∃ a ob, x = .loc a ∧ st3 a = some ob ∧ stoR ob y z fun ob' => K.nx ρ (st3.set a ob')
  | .ret e, K, ρ, st => den Γ X e ρ st K.rt
  | .retN, K, _, st => K.rt .non st
  | .ife c a b, K, ρ, st => den Γ X c ρ st fun d st1 => ∃ t, d = .bl t ∧ (if t = true then denSs a K ρ st1 else denSs b K ρ st1)
  | .for p it b, K, ρ, st => denI Γ X it ρ st fun ds st1 => forL p (fun ρ st K => denSs b K ρ st) K ds ρ st1
  | .whl c b, K, ρ, st => ∃ n, whlN (den Γ X c) (fun ρ st K => denSs b K ρ st) K n ρ st
  | .brk, K, ρ, st => K.bk ρ st
  | .cnt, K, ρ, st => K.ct ρ st
  | .pass, K, ρ, st => K.nx ρ st
  | .never, _, _, _ => False
  | .gfz i, K, ρ, st => match ρ[i]? with
    | some (some x) => ∃ st2 y, (∀ a o, st2 a = some o → st a = some o) ∧ Fz st st2 x y ∧ K.nx (ρ.set i (some y)) st2
    | _ => False
def denSs : Ss → Kn → Env → Store → Prop
  | .nil, K, ρ, st => K.nx ρ st
  | .cons s ss, K, ρ, st => denS s { K with nx := fun ρ1 st1 => denSs ss K ρ1 st1 } ρ st
end
end
end G
/-! How values of the small language lie in the abstract heap. -/
namespace G
open PySem PySem.Spec PyProof.Rows L2

/-! ### keys -/
mutual
def nk : D → Option NestedKey
  | .non => some .none
  | .bl b => some (.num (if b then 1 else 0))
  | .int i => some (.num i)
  | .str x => some (.text x)
  | .tup xs => (nks xs).map .tup
  | _ => none
def nks : List D → Option (List NestedKey)
  | [] => some []
  | x :: xs => match nk x, nks xs with | some a, some b => some (a :: b) | _, _ => none
end

/-! ### values in the heap -/
structure Wd where
  K : PySem.W.Frag
  w : World
  cls : Str → Option Addr
  clo : Nat → Option Addr
def WrL (K : PySem.W.Frag) (a : Addr) (xs : List V) : Prop :=
  ∃ (o : Obj) (its : Array Value) (n : Nat), K.lookup a = some o ∧ o.cls = .type "list" ∧ o.dict = none ∧ o.data = .seq its n ∧ its.size ≤ sizeLine ∧ Vals xs its.toList
def WrT (K : PySem.W.Frag) (a : Addr) (xs : List V) : Prop :=
  ∃ (o : Obj) (its : Array Value) (n : Nat), K.lookup a = some o ∧ o.cls = .type "tuple" ∧ o.data = .seq its n ∧ its.size ≤ sizeLine ∧ Vals xs its.toList
/-- nothing changes it -/
def Still (B : Addr → Prop) (st : Store) (a : Addr) : Prop := st a = none ∧ ¬ B a
def FrL (K : PySem.W.Frag) (B : Addr → Prop) (st : Store) (H : Hp) (a : Addr) (xs : List V) : Prop := (Still B st a ∧ ∃ o, H a = some (.frz o (.lst xs))) ∨ WrL K a xs
theorem FrL.sq {K : PySem.W.Frag} {B : Addr → Prop} {st : Store} {H : Hp} {a : Addr} {xs : List V} (h : FrL K B st H a xs) : SqL K H a xs := h.elim (fun h => .inl (.inr h.2)) .inr
def FrT (K : PySem.W.Frag) (B : Addr → Prop) (st : Store) (H : Hp) (a : Addr) (xs : List V) : Prop := (Still B st a ∧ Rd H a (.tup xs)) ∨ WrT K a xs
theorem FrT.sq {K : PySem.W.Frag} {B : Addr → Prop} {st : Store} {H : Hp} {a : Addr} {xs : List V} (h : FrT K B st H a xs) : SqT K H a xs := h.elim (fun h => .inl h.2) .inr
/-- the raw dict object at a, by its entries -/
def RawD (a : Addr) (es : List DictEntry) (h : Heap) : Prop := ∃ o ep, h.get? a = some o ∧ o.ExactDict ∧ o.data = .dict es.toArray ep
mutual
inductive Rep (W : Wd) (B : Addr → Prop) (st : Store) (H : Hp) : V → D → Prop where
  | non : Rep W B st H .non .non
  | bl (b : Bool) : Rep W B st H (.bl b) (.bl b)
  | int (i : Int) : Rep W B st H (.int i) (.int i)
  | str (x : Str) : Rep W B st H (.str x) (.str x)
  | tup {a : Addr} {vs : List V} {ds : List D} : FrT W.K B st H a vs → RepL W B st H vs ds → Rep W B st H (.ref a) (.tup ds)
  | lst {a : Addr} {vs : List V} {ds : List D} : Still B st a → H a = some (.lst vs) → RepL W B st H vs ds → Rep W B st H (.ref a) (.lst ds)
  | dct {a : Addr} {es : List DictEntry} {kvs : List (D × D)} : Still B st a → H a = some (.ext (RawD a es)) → (a == sysModules) = false → RepK W B st H es kvs → (kvs.map fun p => nk p.1).Nodup → Rep W B st H (.ref a) (.dct kvs)
  | ins {a C dx : Addr} {c : Str} {gs : List (Str × V)} {fs : List (Str × D)} : Still B st a → H a = some (.ins C dx gs) → W.cls c = some C → RepF W B st H gs fs → Rep W B st H (.ref a) (.ins c fs)
  | loc (a : Addr) : Rep W B st H (.ref a) (.loc a)
  | clo {a : Addr} {n : Nat} : W.clo n = some a → Rep W B st H (.ref a) (.clo n)
  | ro {a : Addr} {vs : List V} {ds : List D} : FrL W.K B st H a vs → RepL W B st H vs ds → Rep W B st H (.ref a) (.ro ds)
inductive RepL (W : Wd) (B : Addr → Prop) (st : Store) (H : Hp) : List V → List D → Prop where
  | nil : RepL W B st H [] []
  | cons {v : V} {d : D} {vs : List V} {ds : List D} : Rep W B st H v d → RepL W B st H vs ds → RepL W B st H (v :: vs) (d :: ds)
inductive RepK (W : Wd) (B : Addr → Prop) (st : Store) (H : Hp) : List DictEntry → List (D × D) → Prop where
  | nil : RepK W B st H [] []
  | cons {b : Addr} {u : Value} {v : V} {xs : List D} {d : D} {ks : List NestedKey} {es : List DictEntry} {kvs : List (D × D)} : nks xs = some ks → (D.tup xs).dat 8 = true → Rep W B st H (.ref b) (.tup xs) → RelV v u → Rep W B st H v d → RepK W B st H es kvs →
      RepK W B st H (⟨(NestedKey.tup ks).hash W.w, .ref b, u⟩ :: es) ((.tup xs, d) :: kvs)
inductive RepF (W : Wd) (B : Addr → Prop) (st : Store) (H : Hp) : List (Str × V) → List (Str × D) → Prop where
  | nil : RepF W B st H [] []
  | cons {f : Str} {v : V} {d : D} {gs : List (Str × V)} {fs : List (Str × D)} : Rep W B st H v d → RepF W B st H gs fs → RepF W B st H ((f, v) :: gs) ((f, d) :: fs)
end
/-- what stood, unchanging and told, stands -/
def Gro (B : Addr → Prop) (st : Store) (H : Hp) (st' : Store) (H' : Hp) : Prop := ∀ a o, st a = none → ¬ B a → H a = some o → st' a = none ∧ H' a = some o
/-- .. what is hidden, too -/
def Grow (st : Store) (H : Hp) (st' : Store) (H' : Hp) : Prop := ∀ a o, st a = none → H a = some o → st' a = none ∧ H' a = some o
theorem Grow.refl (st : Store) (H : Hp) : Grow st H st H := fun _ _ h1 h2 => ⟨h1, h2⟩
theorem Grow.trans {s1 s2 s3 : Store} {H1 H2 H3 : Hp} (a : Grow s1 H1 s2 H2) (b : Grow s2 H2 s3 H3) : Grow s1 H1 s3 H3 := fun c o h1 h2 => let ⟨h3, h4⟩ := a c o h1 h2; b c o h3 h4
section
variable {B : Addr → Prop}
theorem Grow.b {st st' : Store} {H H' : Hp} (g : Grow st H st' H') : Gro B st H st' H' := fun a o h1 _ h2 => g a o h1 h2
theorem Gro.trans {s1 s2 s3 : Store} {H1 H2 H3 : Hp} (a : Gro B s1 H1 s2 H2) (b : Gro B s2 H2 s3 H3) : Gro B s1 H1 s3 H3 := fun c o h1 hb h2 => let ⟨h3, h4⟩ := a c o h1 hb h2; b c o h3 hb h4
theorem Still.grow {st st' : Store} {H H' : Hp} {a : Addr} {o : HO} (g : Gro B st H st' H') (h : Still B st a) (e : H a = some o) : Still B st' a ∧ H' a = some o :=
  ⟨⟨(g a o h.1 h.2 e).1, h.2⟩, (g a o h.1 h.2 e).2⟩
theorem FrT.grow {K : PySem.W.Frag} {st st' : Store} {H H' : Hp} {a : Addr} {xs : List V} (g : Gro B st H st' H') (h : FrT K B st H a xs) : FrT K B st' H' a xs := by
  rcases h with ⟨h, r | ⟨o, r⟩⟩ | h
  · exact .inl ⟨(h.grow g r).1, .inl (h.grow g r).2⟩
  · exact .inl ⟨(h.grow g r).1, .inr ⟨o, (h.grow g r).2⟩⟩
  · exact .inr h
theorem FrL.grow {K : PySem.W.Frag} {st st' : Store} {H H' : Hp} {a : Addr} {xs : List V} (g : Gro B st H st' H') (h : FrL K B st H a xs) : FrL K B st' H' a xs := by
  rcases h with ⟨h, o, r⟩ | h
  · exact .inl ⟨(h.grow g r).1, o, (h.grow g r).2⟩
  · exact .inr h
end
section
variable {W : Wd} {B : Addr → Prop} {st st' : Store} {H H' : Hp}
mutual
theorem Rep.gro (g : Gro B st H st' H') : ∀ {v : V} {d : D}, Rep W B st H v d → Rep W B st' H' v d
  | _, _, .non => .non
  | _, _, .bl b => .bl b
  | _, _, .int i => .int i
  | _, _, .str x => .str x
  | _, _, .tup h r => .tup (h.grow g) (RepL.gro g r)
  | _, _, .lst h1 h2 r => .lst (h1.grow g h2).1 (h1.grow g h2).2 (RepL.gro g r)
  | _, _, .dct h1 h2 h3 r n => .dct (h1.grow g h2).1 (h1.grow g h2).2 h3 (RepK.gro g r) n
  | _, _, .ins h1 h2 h3 r => .ins (h1.grow g h2).1 (h1.grow g h2).2 h3 (RepF.gro g r)
  | _, _, .loc a => .loc a
  | _, _, .clo h => .clo h
  | _, _, .ro h r => .ro (h.grow g) (RepL.gro g r)
theorem RepL.gro (g : Gro B st H st' H') : ∀ {vs : List V} {ds : List D}, RepL W B st H vs ds → RepL W B st' H' vs ds
  | _, _, .nil => .nil
  | _, _, .cons r t => .cons (Rep.gro g r) (RepL.gro g t)
theorem RepK.gro (g : Gro B st H st' H') : ∀ {vs : List DictEntry} {ds : List (D × D)}, RepK W B st H vs ds → RepK W B st' H' vs ds
  | _, _, .nil => .nil
  | _, _, .cons h1 h2 r q s t => .cons h1 h2 (Rep.gro g r) q (Rep.gro g s) (RepK.gro g t)
theorem RepF.gro (g : Gro B st H st' H') : ∀ {vs : List (Str × V)} {ds : List (Str × D)}, RepF W B st H vs ds → RepF W B st' H' vs ds
  | _, _, .nil => .nil
  | _, _, .cons r t => .cons (Rep.gro g r) (RepF.gro g t)
end
theorem Rep.grow (g : Grow st H st' H') {v : V} {d : D} (h : Rep W B st H v d) : Rep W B st' H' v d := h.gro g.b
theorem RepL.grow (g : Grow st H st' H') {v : List V} {d : List D} (h : RepL W B st H v d) : RepL W B st' H' v d := h.gro g.b
theorem RepK.grow (g : Grow st H st' H') {v : List DictEntry} {d : List (D × D)} (h : RepK W B st H v d) : RepK W B st' H' v d := h.gro g.b
theorem RepF.grow (g : Grow st H st' H') {v : List (Str × V)} {d : List (Str × D)} (h : RepF W B st H v d) : RepF W B st' H' v d := h.gro g.b
theorem RepL.length : ∀ {vs : List V} {ds : List D}, RepL W B st H vs ds → vs.length = ds.length
  | _, _, .nil => rfl
  | _, _, .cons _ t => congrArg (· + 1) (RepL.length t)
theorem RepK.length : ∀ {vs : List DictEntry} {ds : List (D × D)}, RepK W B st H vs ds → vs.length = ds.length
  | _, _, .nil => rfl
  | _, _, .cons _ _ _ _ _ t => congrArg (· + 1) (RepK.length t)
theorem RepL.get : ∀ {vs : List V} {ds : List D}, RepL W B st H vs ds → ∀ (i : Nat) (d : D), ds[i]? = some d → ∃ v, vs[i]? = some v ∧ Rep W B st H v d
  | _, _, .nil, i, d, h => by simp at h
  | _, _, .cons r t, 0, d, h => by simp at h; subst h; exact ⟨_, rfl, r⟩
  | _, _, .cons r t, i + 1, d, h => by
    obtain ⟨v, h1, h2⟩ := RepL.get t i d (by simpa using h)
    exact ⟨v, by simpa using h1, h2⟩
theorem RepL.get' : ∀ {vs : List V} {ds : List D}, RepL W B st H vs ds → ∀ (i : Nat) (v : V), vs[i]? = some v → ∃ d, ds[i]? = some d ∧ Rep W B st H v d
  | _, _, .nil, i, d, h => by simp at h
  | _, _, .cons r t, 0, d, h => by simp at h; subst h; exact ⟨_, rfl, r⟩
  | _, _, .cons r t, i + 1, d, h => by
    obtain ⟨v, h1, h2⟩ := RepL.get' t i d (by simpa using h)
    exact ⟨v, by simpa using h1, h2⟩
theorem RepL.app : ∀ {vs : List V} {ds : List D} {us : List V} {es : List D}, RepL W B st H vs ds → RepL W B st H us es → RepL W B st H (vs ++ us) (ds ++ es)
  | _, _, _, _, .nil, s => s
  | _, _, _, _, .cons r t, s => .cons r (RepL.app t s)
theorem RepL.take : ∀ {vs : List V} {ds : List D} (n : Nat), RepL W B st H vs ds → RepL W B st H (vs.take n) (ds.take n)
  | _, _, 0, _ => by simp; exact .nil
  | _, _, n + 1, .nil => by simp; exact .nil
  | _, _, n + 1, .cons r t => .cons r (RepL.take n t)
theorem RepL.drop : ∀ {vs : List V} {ds : List D} (n : Nat), RepL W B st H vs ds → RepL W B st H (vs.drop n) (ds.drop n)
  | _, _, 0, h => h
  | _, _, n + 1, .nil => by simp; exact .nil
  | _, _, n + 1, .cons r t => RepL.drop n t
theorem RepL.set {v : V} {d : D} (r : Rep W B st H v d) : ∀ {vs : List V} {ds : List D} (i : Nat), RepL W B st H vs ds → RepL W B st H (vs.set i v) (ds.set i d)
  | _, _, _, .nil => .nil
  | _, _, 0, .cons _ t => .cons r t
  | _, _, i + 1, .cons q t => .cons q (RepL.set r i t)
theorem RepL.rev : ∀ {vs : List V} {ds : List D}, RepL W B st H vs ds → RepL W B st H vs.reverse ds.reverse
  | _, _, .nil => .nil
  | _, _, .cons r t => by
    rw [List.reverse_cons, List.reverse_cons]
    exact (RepL.rev t).app (.cons r .nil)
theorem RepF.lookup : ∀ {vs : List (Str × V)} {ds : List (Str × D)}, RepF W B st H vs ds → ∀ (f : Str) (d : D), ds.lookup f = some d → ∃ v, vs.lookup f = some v ∧ Rep W B st H v d
  | _, _, .nil, f, d, h => by simp at h
  | _, _, .cons (f := g) r t, f, d, h => by
    rw [List.lookup_cons] at h ⊢
    cases e : f == g with
    | true => rw [e] at h; cases h; exact ⟨_, rfl, r⟩
    | false => rw [e] at h; exact RepF.lookup t f d h
theorem RepF.keys : ∀ {vs : List (Str × V)} {ds : List (Str × D)}, RepF W B st H vs ds → vs.map (·.1) = ds.map (·.1)
  | _, _, .nil => rfl
  | _, _, .cons r t => by simp [RepF.keys t]
theorem RepF.length : ∀ {vs : List (Str × V)} {ds : List (Str × D)}, RepF W B st H vs ds → vs.length = ds.length
  | _, _, .nil => rfl
  | _, _, .cons r t => by simp [RepF.length t]
theorem RepF.put {f : Str} {v : V} {d : D} (r : Rep W B st H v d) : ∀ {vs : List (Str × V)} {ds : List (Str × D)}, RepF W B st H vs ds → RepF W B st H (L2.putF f v vs) (G.putF f d ds)
  | _, _, .nil => .cons r .nil
  | _, _, .cons (f := g) q t => by
    unfold L2.putF G.putF
    by_cases e : g = f
    · simp only [e, if_true]; exact .cons r t
    · simp only [e, if_false]; exact .cons q (RepF.put r t)
end
/-- an object of the store in the heap -/
def Has (W : Wd) (B : Addr → Prop) (st : Store) (H : Hp) (a : Addr) : Ob → Prop
  | .lst ds => ∃ vs, H a = some (.lst vs) ∧ RepL W B st H vs ds
  | .dct kvs => ∃ es, H a = some (.ext (RawD a es)) ∧ (a == sysModules) = false ∧ RepK W B st H es kvs ∧ (kvs.map fun p => nk p.1).Nodup
  | .ins c fs => ∃ C dx gs, H a = some (.ins C dx gs) ∧ W.cls c = some C ∧ RepF W B st H gs fs
structure RH (W : Wd) (B : Addr → Prop) (st : Store) (H : Hp) : Prop where
  ob : ∀ a o, st a = some o → Has W B st H a o
  hid : ∀ a, B a → st a = none ∧ ∃ o, H a = some o
structure R (W : Wd) (B : Addr → Prop) (ρ : Env) (st : Store) (σ : L2.St) (H : Hp) : Prop where
  len : ρ.length = σ.length
  var : ∀ (i : Nat) (d : D), ρ[i]? = some (some d) → ∃ v, σ[i]? = some (some v) ∧ Rep W B st H v d
  ob : RH W B st H
section
variable {W : Wd} {B B' : Addr → Prop} {st st' : Store} {H H' : Hp} {ρ : Env} {σ : L2.St} {a : Addr} {o : Ob}
theorem Has.some (h : Has W B st H a o) : ∃ u, H a = some u ∧ Mut (some u) := by
  cases o with
  | lst ds => obtain ⟨vs, e, _⟩ := h; exact ⟨_, e, trivial⟩
  | dct ds => obtain ⟨vs, e, _⟩ := h; exact ⟨_, e, trivial⟩
  | ins c ds => obtain ⟨_, _, _, e, _⟩ := h; exact ⟨_, e, trivial⟩
theorem RH.free (h : RH W B st H) (e : H a = none) : Still B st a := by
  refine ⟨?_, fun hb => ?_⟩
  · cases q : st a with
    | none => rfl
    | some o => obtain ⟨u, z, _⟩ := (h.ob a o q).some; rw [e] at z; cases z
  · obtain ⟨_, o, z⟩ := h.hid a hb
    rw [e] at z; cases z
/-- the heap has grown, the store is the same -/
theorem Grow.same (s : Same H H') : Grow st H st H' := fun a o h1 h2 => ⟨h1, s a o h2⟩
theorem Has.keep (g : Gro B st H st' H') (e : ∀ u, H a = Option.some u → H' a = Option.some u) (h : Has W B st H a o) : Has W B st' H' a o := by
  cases o with
  | lst ds => obtain ⟨vs, q, r⟩ := h; exact ⟨vs, e _ q, r.gro g⟩
  | dct ds => obtain ⟨vs, q, z, r, n⟩ := h; exact ⟨vs, e _ q, z, r.gro g, n⟩
  | ins c ds => obtain ⟨C, dx, vs, q, k, r⟩ := h; exact ⟨C, dx, vs, e _ q, k, r.gro g⟩
theorem RH.same (h : RH W B st H) (s : Same H H') : RH W B st H' :=
  ⟨fun a o e => (h.ob a o e).keep (Grow.same s).b fun u q => s a u q, fun a hb => let ⟨h1, o, h2⟩ := h.hid a hb; ⟨h1, o, s _ _ h2⟩⟩
theorem R.same (h : R W B ρ st σ H) (s : Same H H') : R W B ρ st σ H' :=
  ⟨h.len, fun i d e => let ⟨v, h1, h2⟩ := h.var i d e; ⟨v, h1, h2.grow (Grow.same s)⟩, h.ob.same s⟩
theorem R.step (h : R W B ρ st σ H) (g : Grow st H st' H') (ob : RH W B st' H') : R W B ρ st' σ H' :=
  ⟨h.len, fun i d e => let ⟨v, h1, h2⟩ := h.var i d e; ⟨v, h1, h2.grow g⟩, ob⟩
theorem R.set (h : R W B ρ st σ H) {v : V} {d : D} (i : Nat) (r : Rep W B st H v d) : R W B (ρ.set i (some d)) st (σ.set i (some v)) H := by
  refine ⟨by simp [h.len], fun j e hj => ?_, h.ob⟩
  by_cases hij : i = j
  · subst hij
    have hl : i < ρ.length := by
      rcases Nat.lt_or_ge i ρ.length with q | q
      · exact q
      · rw [List.getElem?_eq_none (by simpa using q)] at hj; cases hj
    rw [List.getElem?_set_self hl] at hj
    cases hj
    exact ⟨v, List.getElem?_set_self (by rw [← h.len]; exact hl), r⟩
  · rw [List.getElem?_set_ne hij] at hj ⊢
    exact h.var j e hj
theorem R.unset (h : R W B ρ st σ H) (i : Nat) : R W B (ρ.set i none) st (σ.set i none) H := by
  refine ⟨by simp [h.len], fun j e hj => ?_, h.ob⟩
  by_cases hij : i = j
  · subst hij
    have hl : i < ρ.length := by
      rcases Nat.lt_or_ge i ρ.length with q | q
      · exact q
      · rw [List.getElem?_eq_none (by simpa using q)] at hj; cases hj
    rw [List.getElem?_set_self hl] at hj
    cases hj
  · rw [List.getElem?_set_ne hij] at hj ⊢
    exact h.var j e hj
theorem R.wipe (h : R W B ρ st σ H) : ∀ vs : List Nat, R W B (wipeE ρ vs) st (L2.wipe σ vs) H
  | [] => h
  | v :: vs => by unfold wipeE L2.wipe; exact (R.wipe h vs).unset v
/-! fewer things hidden -/
theorem Still.less (l : ∀ a, B a → B' a) (h : Still B' st a) : Still B st a := ⟨h.1, fun z => h.2 (l a z)⟩
mutual
theorem Rep.less (l : ∀ a, B a → B' a) : ∀ {v : V} {d : D}, Rep W B' st H v d → Rep W B st H v d
  | _, _, .non => .non
  | _, _, .bl b => .bl b
  | _, _, .int i => .int i
  | _, _, .str x => .str x
  | _, _, .tup h r => .tup (h.imp (fun z => ⟨z.1.less l, z.2⟩) id) (RepL.less l r)
  | _, _, .lst h1 h2 r => .lst (h1.less l) h2 (RepL.less l r)
  | _, _, .dct h1 h2 h3 r n => .dct (h1.less l) h2 h3 (RepK.less l r) n
  | _, _, .ins h1 h2 h3 r => .ins (h1.less l) h2 h3 (RepF.less l r)
  | _, _, .loc a => .loc a
  | _, _, .clo h => .clo h
  | _, _, .ro h r => .ro (h.imp (fun z => ⟨z.1.less l, z.2⟩) id) (RepL.less l r)
theorem RepL.less (l : ∀ a, B a → B' a) : ∀ {vs : List V} {ds : List D}, RepL W B' st H vs ds → RepL W B st H vs ds
  | _, _, .nil => .nil
  | _, _, .cons r t => .cons (Rep.less l r) (RepL.less l t)
theorem RepK.less (l : ∀ a, B a → B' a) : ∀ {vs : List DictEntry} {ds : List (D × D)}, RepK W B' st H vs ds → RepK W B st H vs ds
  | _, _, .nil => .nil
  | _, _, .cons h1 h2 r q s t => .cons h1 h2 (Rep.less l r) q (Rep.less l s) (RepK.less l t)
theorem RepF.less (l : ∀ a, B a → B' a) : ∀ {vs : List (Str × V)} {ds : List (Str × D)}, RepF W B' st H vs ds → RepF W B st H vs ds
  | _, _, .nil => .nil
  | _, _, .cons r t => .cons (Rep.less l r) (RepF.less l t)
end
theorem Has.less (l : ∀ a, B a → B' a) (h : Has W B' st H a o) : Has W B st H a o := by
  cases o with
  | lst ds => obtain ⟨vs, q, r⟩ := h; exact ⟨vs, q, r.less l⟩
  | dct ds => obtain ⟨vs, q, z, r, n⟩ := h; exact ⟨vs, q, z, r.less l, n⟩
  | ins c ds => obtain ⟨C, dx, vs, q, k, r⟩ := h; exact ⟨C, dx, vs, q, k, r.less l⟩
/-- all at a stays out of what is told -/
def Hide (B : Addr → Prop) (x : Addr) : Addr → Prop := fun a => B a ∨ a = x
/-- a new thing that stands still -/
theorem same_upd {u : HO} (e : H a = none) : Same H (upd H a u) := fun b o q => by rw [upd_ne (ne_of_none q e)]; exact q
/-! other things hidden, new ones among them: nothing told hangs on these -/
theorem Still.re {B' : Addr → Prop} (l : ∀ a, B' a → B a ∨ H a = none) {u : HO} (h : Still B st a) (e : H a = Option.some u) : Still B' st a :=
  ⟨h.1, fun z => (l a z).elim h.2 fun n => by rw [n] at e; cases e⟩
mutual
theorem Rep.re {B' : Addr → Prop} (l : ∀ a, B' a → B a ∨ H a = none) : ∀ {v : V} {d : D}, Rep W B st H v d → Rep W B' st H v d
  | _, _, .non => .non
  | _, _, .bl b => .bl b
  | _, _, .int i => .int i
  | _, _, .str x => .str x
  | _, _, .tup h r => .tup (h.imp (fun z => ⟨z.2.elim (fun w => z.1.re l w) (fun ⟨o, w⟩ => z.1.re l w), z.2⟩) id) (RepL.re l r)
  | _, _, .lst h1 h2 r => .lst (h1.re l h2) h2 (RepL.re l r)
  | _, _, .dct h1 h2 h3 r m => .dct (h1.re l h2) h2 h3 (RepK.re l r) m
  | _, _, .ins h1 h2 h3 r => .ins (h1.re l h2) h2 h3 (RepF.re l r)
  | _, _, .loc a => .loc a
  | _, _, .clo h => .clo h
  | _, _, .ro h r => .ro (h.imp (fun z => ⟨(let ⟨_, w⟩ := z.2; z.1.re l w), z.2⟩) id) (RepL.re l r)
theorem RepL.re {B' : Addr → Prop} (l : ∀ a, B' a → B a ∨ H a = none) : ∀ {vs : List V} {ds : List D}, RepL W B st H vs ds → RepL W B' st H vs ds
  | _, _, .nil => .nil
  | _, _, .cons r t => .cons (Rep.re l r) (RepL.re l t)
theorem RepK.re {B' : Addr → Prop} (l : ∀ a, B' a → B a ∨ H a = none) : ∀ {vs : List DictEntry} {ds : List (D × D)}, RepK W B st H vs ds → RepK W B' st H vs ds
  | _, _, .nil => .nil
  | _, _, .cons h1 h2 r q s t => .cons h1 h2 (Rep.re l r) q (Rep.re l s) (RepK.re l t)
theorem RepF.re {B' : Addr → Prop} (l : ∀ a, B' a → B a ∨ H a = none) : ∀ {vs : List (Str × V)} {ds : List (Str × D)}, RepF W B st H vs ds → RepF W B' st H vs ds
  | _, _, .nil => .nil
  | _, _, .cons r t => .cons (Rep.re l r) (RepF.re l t)
end
theorem Has.re {B' : Addr → Prop} (l : ∀ a, B' a → B a ∨ H a = none) (h : Has W B st H a o) : Has W B' st H a o := by
  cases o with
  | lst ds => obtain ⟨vs, q, r⟩ := h; exact ⟨vs, q, r.re l⟩
  | dct ds => obtain ⟨vs, q, z, r, m⟩ := h; exact ⟨vs, q, z, r.re l, m⟩
  | ins c ds => obtain ⟨C, dx, vs, q, k, r⟩ := h; exact ⟨C, dx, vs, q, k, r.re l⟩
theorem RH.fewer (l : ∀ a, B a → B' a) (h : RH W B' st H) : RH W B st H := ⟨fun a o e => (h.ob a o e).less l, fun a hb => h.hid a (l a hb)⟩
theorem R.gro (h : R W B ρ st σ H) (g : Gro B st H st' H') (ob : RH W B st' H') : R W B ρ st' σ H' :=
  ⟨h.len, fun i d e => let ⟨v, h1, h2⟩ := h.var i d e; ⟨v, h1, h2.gro g⟩, ob⟩
/-- a new object that a loop fills is hidden meanwhile -/
theorem RH.hideNew {x : Addr} {u : HO} (h : RH W B st H) (n : H x = none) : RH W (Hide B x) st (upd H x u) := by
  have l : ∀ a, Hide B x a → B a ∨ H a = none := fun a z => z.elim .inl fun e => .inr (by rw [e]; exact n)
  refine ⟨fun a o e => ?_, fun a z => ?_⟩
  · exact ((h.ob a o e).re l).keep (Grow.same (same_upd n)).b fun w q => same_upd n a w q
  · by_cases e : a = x
    · rw [e]; exact ⟨(h.free n).1, u, upd_same⟩
    · obtain ⟨h1, o, h2⟩ := h.hid a (z.resolve_right e)
      exact ⟨h1, o, by rw [upd_ne e]; exact h2⟩
/-- without x -/
def cut (H : Hp) (x : Addr) : Hp := fun a => if a = x then none else H a
theorem cut_ne {x a : Addr} (h : a ≠ x) : cut H x a = H a := if_neg h
theorem upd_cut {x : Addr} {u : HO} (h : H x = Option.some u) : upd (cut H x) x u = H := by
  funext a
  unfold upd cut
  by_cases e : a = x
  · rw [if_pos e, e, h]
  · rw [if_neg e, if_neg e]
theorem Gro.cut {x : Addr} : Gro (Hide B x) st H st (cut H x) := fun a o h1 h2 h3 => ⟨h1, by rw [cut_ne fun e => h2 (.inr e)]; exact h3⟩
theorem RepL.cut1 {x : Addr} {vs : List V} {ds : List D} (h : RepL W (Hide B x) st H vs ds) : RepL W B st (G.cut H x) vs ds := (h.gro Gro.cut).less fun _ z => .inl z
theorem Rep.cut1 {x : Addr} {vs : V} {ds : D} (h : Rep W (Hide B x) st H vs ds) : Rep W B st (G.cut H x) vs ds := (h.gro Gro.cut).less fun _ z => .inl z
theorem RepK.cut1 {x : Addr} {vs : List DictEntry} {ds : List (D × D)} (h : RepK W (Hide B x) st H vs ds) : RepK W B st (G.cut H x) vs ds := (h.gro Gro.cut).less fun _ z => .inl z
theorem RH.unhide {x : Addr} (h : RH W (Hide B x) st H) (n : ¬ B x) : RH W B st (G.cut H x) := by
  have hx := (h.hid x (.inr rfl)).1
  refine ⟨fun a o e => ?_, fun a z => ?_⟩
  · have ne : a ≠ x := fun q => by rw [q, hx] at e; cases e
    exact ((h.ob a o e).keep Gro.cut fun u q => by rw [cut_ne ne]; exact q).less fun _ z => .inl z
  · obtain ⟨h1, o, h2⟩ := h.hid a (.inl z)
    exact ⟨h1, o, by rw [cut_ne (fun e => n (by rw [← e]; exact z))]; exact h2⟩
/-- what is hidden changes: what is told stands -/
theorem Gro.hidden {x : Addr} {u : HO} (hx : B x) : Gro B st H st (upd H x u) := fun a o h1 h2 h3 => ⟨h1, by
  rw [upd_ne (fun e => h2 (by rw [e]; exact hx))]; exact h3⟩
/-- an object written -/
theorem RH.write {u : HO} {o' : Ob} (h : RH W B st H) (e : st a = some o) (new : Grow st H (st.set a o') (upd H a u) → Has W B (st.set a o') (upd H a u) a o') :
    RH W B (st.set a o') (upd H a u) ∧ Grow st H (st.set a o') (upd H a u) := by
  have g : Grow st H (st.set a o') (upd H a u) := fun b ob h1 h2 => by
    have n : b ≠ a := fun z => by subst z; rw [e] at h1; cases h1
    exact ⟨by unfold Store.set; rw [if_neg n]; exact h1, by rw [upd_ne n]; exact h2⟩
  have nb : ∀ b, B b → b ≠ a := fun b hb z => by
    have := (h.hid b hb).1
    rw [z, e] at this; cases this
  refine ⟨⟨fun b ob q => ?_, fun b hb => ?_⟩, g⟩
  · by_cases n : b = a
    · subst n
      unfold Store.set at q
      rw [if_pos rfl] at q
      cases q
      exact new g
    · unfold Store.set at q
      rw [if_neg n] at q
      refine (h.ob b ob q).keep g.b fun u' q' => ?_
      rw [upd_ne n]; exact q'
  · obtain ⟨h1, ob, h2⟩ := h.hid b hb
    exact ⟨by unfold Store.set; rw [if_neg (nb b hb)]; exact h1, ob, by rw [upd_ne (nb b hb)]; exact h2⟩
/-- a new object in the store -/
theorem RH.alloc {u : HO} {o' : Ob} (h : RH W B st H) (e : H a = none) (new : Grow st H (st.set a o') (upd H a u) → Has W B (st.set a o') (upd H a u) a o') :
    RH W B (st.set a o') (upd H a u) ∧ Grow st H (st.set a o') (upd H a u) := by
  have g : Grow st H (st.set a o') (upd H a u) := fun b ob h1 h2 => by
    have n : b ≠ a := fun z => by subst z; rw [e] at h2; cases h2
    exact ⟨by unfold Store.set; rw [if_neg n]; exact h1, by rw [upd_ne n]; exact h2⟩
  have nb : ∀ b, B b → b ≠ a := fun b hb z => by
    obtain ⟨_, o, q⟩ := h.hid b hb
    rw [z, e] at q; cases q
  refine ⟨⟨fun b ob q => ?_, fun b hb => ?_⟩, g⟩
  · by_cases n : b = a
    · subst n
      unfold Store.set at q
      rw [if_pos rfl] at q
      cases q
      exact new g
    · unfold Store.set at q
      rw [if_neg n] at q
      refine (h.ob b ob q).keep g.b fun u' q' => ?_
      rw [upd_ne n]; exact q'
  · obtain ⟨h1, ob, h2⟩ := h.hid b hb
    exact ⟨by unfold Store.set; rw [if_neg (nb b hb)]; exact h1, ob, by rw [upd_ne (nb b hb)]; exact h2⟩
/-- fewer things in the store -/
theorem RH.less (h : RH W B st H) (l : ∀ a o, st' a = some o → st a = some o) : RH W B st' H ∧ Grow st H st' H := by
  have e : ∀ b, st b = none → st' b = none := fun b h1 => by
    cases q : st' b with
    | none => rfl
    | some o => rw [l b o q] at h1; cases h1
  have g : Grow st H st' H := fun b ob h1 h2 => ⟨e b h1, h2⟩
  exact ⟨⟨fun b ob q => (h.ob b ob (l b ob q)).keep g.b fun _ z => z, fun b hb => let ⟨h1, o, h2⟩ := h.hid b hb; ⟨e b h1, o, h2⟩⟩, g⟩
theorem Rep.newTup {vs : List V} {ds : List D} (h : RH W B st H) (e : H a = none) (r : RepL W B st H vs ds) : Rep W B st (upd H a (.tup vs)) (.ref a) (.tup ds) :=
  .tup (.inl ⟨h.free e, .inl upd_same⟩) (r.grow (Grow.same (same_upd e)))
theorem Rep.newLst {vs : List V} {ds : List D} (h : RH W B st H) (e : H a = none) (r : RepL W B st H vs ds) : Rep W B st (upd H a (.lst vs)) (.ref a) (.lst ds) :=
  .lst (h.free e) upd_same (r.grow (Grow.same (same_upd e)))
theorem seqOf_loc {st : Store} {a : Addr} {xs : List D} (e : seqOf st (.loc a) = some xs) : st a = some (.lst xs) := by
  have e' : (match st a with | some (.lst xs) => some xs | _ => none) = some xs := e
  split at e'
  · rename_i ys hs; cases e'; exact hs
  · cases e'
theorem lstOf_loc {st : Store} {a : Addr} {xs : List D} (e : lstOf st (.loc a) = some xs) : st a = some (.lst xs) := seqOf_loc e
theorem dctOf_loc {st : Store} {a : Addr} {xs : List (D × D)} (e : dctOf st (.loc a) = some xs) : st a = some (.dct xs) := by
  have e' : (match st a with | some (.dct xs) => some xs | _ => none) = some xs := e
  split at e'
  · rename_i ys hs; cases e'; exact hs
  · cases e'
/-- reading -/
theorem seq_of {v : V} {d : D} {xs : List D} (h : RH W B st H) (r : Rep W B st H v d) (e : seqOf st d = some xs) : ∃ a vs, v = .ref a ∧ RepL W B st H vs xs ∧ (SqL W.K H a vs ∨ SqT W.K H a vs) := by
  cases r with
  | tup q l => cases e; exact ⟨_, _, rfl, l, .inr q.sq⟩
  | lst _ q l => cases e; exact ⟨_, _, rfl, l, .inl (.of q)⟩
  | ro q l => cases e; exact ⟨_, _, rfl, l, .inl q.sq⟩
  | loc a =>
    obtain ⟨vs, q, l⟩ := h.ob _ _ (seqOf_loc e)
    exact ⟨_, _, rfl, l, .inl (.of q)⟩
  | _ => cases e
theorem lst_of {v : V} {d : D} {xs : List D} (h : RH W B st H) (r : Rep W B st H v d) (e : lstOf st d = some xs) : ∃ a vs, v = .ref a ∧ RepL W B st H vs xs ∧ H a = some (.lst vs) := by
  cases r with
  | lst _ q l => cases e; exact ⟨_, _, rfl, l, q⟩
  | loc a =>
    obtain ⟨vs, q, l⟩ := h.ob _ _ (lstOf_loc e)
    exact ⟨_, _, rfl, l, q⟩
  | _ => cases e
end

/-! ### readings lifted -/
/-- an expression's reading, of a reading over plain values -/
def LE (W : Wd) (m : Env → Store → Post → Prop) : TE := fun σ H Q => ∃ B ρ st P, R W B ρ st σ H ∧ m ρ st P ∧
  ∀ d st' v H', P d st' → Rep W B st' H' v d → RH W B st' H' → Grow st H st' H' → Q v H'
def LT (W : Wd) (m : Env → Store → Post → Prop) : TT := fun σ H Q => ∃ B ρ st P, R W B ρ st σ H ∧ m ρ st P ∧
  ∀ d st' H', P d st' → RH W B st' H' → Grow st H st' H' → ∃ b, d = .bl b ∧ Q b H'
def LA (W : Wd) (m : Env → Store → (List D → Store → Prop) → Prop) : TA := fun σ H Q => ∃ B ρ st P, R W B ρ st σ H ∧ m ρ st P ∧
  ∀ ds st' vs H', P ds st' → RepL W B st' H' vs ds → RH W B st' H' → Grow st H st' H' → Q vs H'
theorem _root_.L2.PE.mono {X : Cx} {e : Expr} {t t' : TE} (h : PE X e t) (i : ∀ σ H Q, t' σ H Q → t σ H Q) : PE X e t' := ⟨fun pins s σ H Q I w => h.run pins s σ H Q I (i σ H Q w)⟩
theorem _root_.L2.PT.mono {X : Cx} {e : Expr} {t t' : TT} (h : PT X e t) (i : ∀ σ H Q, t' σ H Q → t σ H Q) : PT X e t' := ⟨fun pins s σ H Q I w => h.run pins s σ H Q I (i σ H Q w)⟩
theorem _root_.L2.PA.mono {X : Cx} {e : List Expr} {t t' : TA} (h : PA X e t) (i : ∀ σ H Q, t' σ H Q → t σ H Q) : PA X e t' := ⟨fun pos pins s σ H Q I w => h.run pos pins s σ H Q I (i σ H Q w)⟩
theorem _root_.L2.PS.mono {X : Cx} {e : Stmt} {t t' : TS} (h : PS X e t) (i : ∀ D σ H, t' D σ H → t D σ H) : PS X e t' := ⟨fun pins s σ H D I w => h.run pins s σ H D I (i D σ H w)⟩
theorem _root_.L2.PSs.mono {X : Cx} {e : List Stmt} {t t' : TS} (h : PSs X e t) (i : ∀ D σ H, t' D σ H → t D σ H) : PSs X e t' := ⟨fun pins s σ H D I w => h.run pins s σ H D I (i D σ H w)⟩
end G
/-! Operators over plain values. -/
namespace G
open PySem PySem.Spec PyProof.Rows L2

/-! ### plain data as the library's data -/
mutual
def py : D → PyData
  | .non => .none
  | .bl b => .bool b
  | .int i => .int i
  | .str x => .str x
  | .tup xs => .tuple (pys xs)
  | .lst xs => .list (pys xs)
  | _ => .none
def pys : List D → List PyData
  | [] => []
  | x :: xs => py x :: pys xs
end
theorem pys_map (xs : List D) : pys xs = xs.map py := by
  induction xs with
  | nil => rfl
  | cons x xs ih => simp [pys, ih]
mutual
theorem eqv_py : ∀ (a b : D) (n m : Nat), a.dat n = true → b.dat m = true → PyData.eqv (py a) (py b) = a.eqv b
  | .non, b, n, m, ha, hb => by cases b <;> simp_all [py, PyData.eqv, D.eqv, D.dat]
  | .bl x, b, n, m, ha, hb => by cases b <;> simp_all [py, PyData.eqv, D.eqv, D.dat, Bool.beq_eq_decide_eq] <;> rfl
  | .int x, b, n, m, ha, hb => by cases b <;> simp_all [py, PyData.eqv, D.eqv, D.dat] <;> rfl
  | .str x, b, n, m, ha, hb => by cases b <;> simp_all [py, PyData.eqv, D.eqv, D.dat] <;> rfl
  | .tup xs, b, n, m, ha, hb => by
    cases b <;> simp_all [py, PyData.eqv, D.eqv, D.dat]
    rename_i ys
    cases n with
    | zero => simp [D.dat] at ha
    | succ n =>
      cases m with
      | zero => simp [D.dat] at hb
      | succ m => exact eqvs_py xs ys n m (by simpa [D.dat] using ha) (by simpa [D.dat] using hb)
  | .lst xs, b, n, m, ha, hb => by
    cases b <;> simp_all [py, PyData.eqv, D.eqv, D.dat]
    rename_i ys
    cases n with
    | zero => simp [D.dat] at ha
    | succ n =>
      cases m with
      | zero => simp [D.dat] at hb
      | succ m => exact eqvs_py xs ys n m (by simpa [D.dat] using ha) (by simpa [D.dat] using hb)
  | .dct _, _, _, _, ha, _ => by simp [D.dat] at ha
  | .ins _ _, _, _, _, ha, _ => by simp [D.dat] at ha
  | .loc _, _, _, _, ha, _ => by simp [D.dat] at ha
  | .clo _, _, _, _, ha, _ => by simp [D.dat] at ha
  | .ro _, _, _, _, ha, _ => by simp [D.dat] at ha
theorem eqvs_py : ∀ (a b : List D) (n m : Nat), D.dats n a = true → D.dats m b = true → PyData.eqvAll (pys a) (pys b) = D.eqvs a b
  | [], [], _, _, _, _ => rfl
  | [], _ :: _, _, _, _, _ => rfl
  | _ :: _, [], _, _, _, _ => rfl
  | x :: xs, y :: ys, n, m, ha, hb => by
    simp only [D.dats, Bool.and_eq_true] at ha hb
    simp only [pys, PyData.eqvAll, D.eqvs, eqv_py x y n m ha.1 hb.1, eqvs_py xs ys n m ha.2 hb.2]
end
mutual
theorem lay_py : ∀ (a : D) (n : Nat), a.dat n = true → (py a).canLay0 = true ∧ (py a).depth ≤ n
  | .non, n, ha => ⟨by simp [py, PyData.canLay0], by simp [py, PyData.depth]⟩
  | .bl x, n, ha => ⟨by simp [py, PyData.canLay0], by simp [py, PyData.depth]⟩
  | .int x, n, ha => ⟨by simp [py, PyData.canLay0], by simp [py, PyData.depth]⟩
  | .str x, n, ha => ⟨by simpa [py, PyData.canLay0, D.dat] using ha, by simp [py, PyData.depth]⟩
  | .tup xs, n, ha => by
    cases n with
    | zero => simp [D.dat] at ha
    | succ n =>
      have h := lays_py xs n (by simpa [D.dat] using ha)
      exact ⟨by simpa [py, PyData.canLay0] using h.1, by simp only [py, PyData.depth]; have := h.2; omega⟩
  | .lst xs, n, ha => by
    cases n with
    | zero => simp [D.dat] at ha
    | succ n =>
      have h := lays_py xs n (by simpa [D.dat] using ha)
      exact ⟨by simpa [py, PyData.canLay0] using h.1, by simp only [py, PyData.depth]; have := h.2; omega⟩
  | .dct _, _, ha => by simp [D.dat] at ha
  | .ins _ _, _, ha => by simp [D.dat] at ha
  | .loc _, _, ha => by simp [D.dat] at ha
  | .clo _, _, ha => by simp [D.dat] at ha
  | .ro _, _, ha => by simp [D.dat] at ha
theorem lays_py : ∀ (a : List D) (n : Nat), D.dats n a = true → PyData.canLayAll0 (pys a) = true ∧ PyData.depthAll (pys a) ≤ n
  | [], _, _ => ⟨rfl, Nat.zero_le _⟩
  | x :: xs, n, ha => by
    simp only [D.dats, Bool.and_eq_true] at ha
    have h1 := lay_py x n ha.1
    have h2 := lays_py xs n ha.2
    exact ⟨by simp [pys, PyData.canLayAll0, h1.1, h2.1], by simp only [pys, PyData.depthAll]; have := h1.2; have := h2.2; omega⟩
end
theorem shaped_py {a : D} (h : a.dat 60 = true) : SeqAt.shaped (py a) = true := by
  have := lay_py a 60 h
  unfold SeqAt.shaped
  rw [Bool.and_eq_true]
  exact ⟨this.1, decide_eq_true (by omega)⟩
mutual
theorem alike_py : ∀ (a b : D), a.alike b = true → PySem.W.alike (py a) (py b) = true
  | .int x, b, h => by cases b <;> simp_all [D.alike, py, PySem.W.alike]
  | .str x, b, h => by cases b <;> simp_all [D.alike, py, PySem.W.alike]
  | .tup xs, b, h => by
    cases b <;> simp_all [D.alike, py, PySem.W.alike]
    rename_i ys
    exact alikes_py xs ys h
  | .non, b, h => by simp [D.alike] at h
  | .bl _, b, h => by simp [D.alike] at h
  | .lst _, b, h => by simp [D.alike] at h
  | .dct _, _, ha => by simp [D.alike] at ha
  | .ins _ _, _, ha => by simp [D.alike] at ha
  | .loc _, _, ha => by simp [D.alike] at ha
  | .clo _, _, ha => by simp [D.alike] at ha
  | .ro _, _, ha => by simp [D.alike] at ha
theorem alikes_py : ∀ (a b : List D), D.alikes a b = true → PySem.W.alikeAll (pys a) (pys b) = true
  | [], _, _ => by simp [pys, PySem.W.alikeAll]
  | x :: xs, [], _ => by simp [pys, PySem.W.alikeAll]
  | x :: xs, y :: ys, h => by
    simp only [D.alikes, Bool.and_eq_true] at h
    simp only [pys, PySem.W.alikeAll, alike_py x y h.1, alikes_py xs ys h.2, Bool.and_self]
end
mutual
theorem lt_py : ∀ (a b : D) (n m : Nat), a.dat n = true → b.dat m = true → a.alike b = true → PySem.W.dataLt (py a) (py b) = a.lt b
  | .int x, b, n, m, ha, hb, h => by cases b <;> simp_all [D.alike, py, D.lt, PySem.W.dataLt_int]
  | .str x, b, n, m, ha, hb, h => by cases b <;> simp_all [D.alike, py, D.lt, PySem.W.dataLt_str]
  | .tup xs, b, n, m, ha, hb, h => by
    cases b <;> simp_all [D.alike, py, D.lt]
    rename_i ys
    rw [PySem.W.dataLt_tuple]
    cases n with
    | zero => simp [D.dat] at ha
    | succ n =>
      cases m with
      | zero => simp [D.dat] at hb
      | succ m => exact lts_py xs ys n m (by simpa [D.dat] using ha) (by simpa [D.dat] using hb) h
  | .non, b, _, _, _, _, h => by simp [D.alike] at h
  | .bl _, b, _, _, _, _, h => by simp [D.alike] at h
  | .lst _, b, _, _, _, _, h => by simp [D.alike] at h
  | .dct _, _, _, _, _, _, ha => by simp [D.alike] at ha
  | .ins _ _, _, _, _, _, _, ha => by simp [D.alike] at ha
  | .loc _, _, _, _, _, _, ha => by simp [D.alike] at ha
  | .clo _, _, _, _, _, _, ha => by simp [D.alike] at ha
  | .ro _, _, _, _, _, _, ha => by simp [D.alike] at ha
theorem lts_py : ∀ (a b : List D) (n m : Nat), D.dats n a = true → D.dats m b = true → D.alikes a b = true → PyProof.Rows.lexLt PyProof.Rows.itemOrd (PySem.W.keyToksAll (pys a)) (PySem.W.keyToksAll (pys b)) = D.lts a b
  | [], [], _, _, _, _, _ => by simp [pys, PySem.W.keyToksAll, PyProof.Rows.lexLt, D.lts, itemLt]
  | [], _ :: _, _, _, _, _, _ => by simp [pys, PySem.W.keyToksAll, PyProof.Rows.lexLt, D.lts, itemLt]
  | _ :: _, [], _, _, _, _, _ => by simp [pys, PySem.W.keyToksAll, PyProof.Rows.lexLt, D.lts, itemLt]
  | x :: xs, y :: ys, n, m, ha, hb, h => by
    simp only [D.dats, Bool.and_eq_true] at ha hb
    simp only [D.alikes, Bool.and_eq_true] at h
    have hal := alike_py x y h.1
    have he := eqv_py x y n m ha.1 hb.1
    simp only [pys, D.lts]
    cases e : x.eqv y with
    | true => rw [if_pos rfl, PySem.W.dataLt_all_yes hal (by rw [he, e])]; exact lts_py xs ys n m ha.2 hb.2 h.2
    | false => rw [if_neg (by decide), PySem.W.dataLt_all_no hal (by rw [he, e])]; exact lt_py x y n m ha.1 hb.1 h.1
end
section
variable {W : Wd} {B : Addr → Prop} {st : Store} {H : Hp}
mutual
theorem Rep.dp : ∀ {v : V} {d : D} (n : Nat), Rep W B st H v d → d.dat n = true → Dp W.K H v (py d)
  | _, _, n, .non, _ => .non
  | _, _, n, .bl b, _ => .bl b
  | _, _, n, .int i, _ => .int i
  | _, _, n, .str x, _ => .str x
  | _, _, 0, .tup _ _, h => by simp [D.dat] at h
  | _, _, n + 1, .tup q r, h => by rw [py]; exact .tup q.sq (RepL.dp n r (by simpa [D.dat] using h))
  | _, _, 0, .lst _ _ _, h => by simp [D.dat] at h
  | _, _, n + 1, .lst _ q r, h => by rw [py]; exact .lst (.of q) (RepL.dp n r (by simpa [D.dat] using h))
  | _, _, _, .dct _ _ _ _ _, h => by simp [D.dat] at h
  | _, _, _, .ins _ _ _ _, h => by simp [D.dat] at h
  | _, _, _, .loc _, h => by simp [D.dat] at h
  | _, _, _, .clo _, h => by simp [D.dat] at h
  | _, _, _, .ro _ _, h => by simp [D.dat] at h
theorem RepL.dp : ∀ {v : List V} {d : List D} (n : Nat), RepL W B st H v d → D.dats n d = true → DpAll W.K H v (pys d)
  | _, _, n, .nil, _ => .nil
  | _, _, n, .cons r t, h => by
    simp only [D.dats, Bool.and_eq_true] at h
    rw [pys]; exact .cons (Rep.dp n r h.1) (RepL.dp n t h.2)
end
theorem rsv_dp {v : V} {d : D} (h : RH W B st H) (r : Rep W B st H v d) (e : (rsv st d).dat 60 = true) : Dp W.K H v (py (rsv st d)) := by
  cases r with
  | loc a =>
    cases q : st a with
    | none => simp [rsv, q, D.dat] at e
    | some o =>
      cases o with
      | lst xs =>
        have q1 : rsv st (.loc a) = .lst xs := by simp [rsv, q]
        rw [q1] at e ⊢
        obtain ⟨vs, q2, l⟩ := h.ob _ _ q
        rw [py]
        exact .lst (.of q2) (RepL.dp 59 l (by simpa [D.dat] using e))
      | dct _ => simp [rsv, q, D.dat] at e
      | ins _ _ => simp [rsv, q, D.dat] at e
  | non => exact Rep.dp (B := B) (st := st) 60 .non e
  | bl b => exact Rep.dp (B := B) (st := st) 60 (.bl b) e
  | int b => exact Rep.dp (B := B) (st := st) 60 (.int b) e
  | str b => exact Rep.dp (B := B) (st := st) 60 (.str b) e
  | tup q l => exact Rep.dp 60 (.tup q l) e
  | lst q l m => exact Rep.dp 60 (.lst q l m) e
  | dct q l m n o => exact Rep.dp 60 (.dct q l m n o) e
  | ins q l m n => exact Rep.dp 60 (.ins q l m n) e
  | clo q => exact Rep.dp (W := W) (B := B) (st := st) (H := H) 60 (.clo q) e
  | ro q l => exact Rep.dp 60 (.ro q l) e
end

/-! ### rules -/
/-- two values, what is asked of them, what comes -/
def r2 (W : Wd) (k : Store → D → D → (D → Prop) → Prop) : R2 := fun x y H Q => ∃ B st d1 d2 P, RH W B st H ∧ Rep W B st H x d1 ∧ Rep W B st H y d2 ∧ k st d1 d2 P ∧ ∀ d v H', P d → Rep W B st H' v d → Same H H' → Q v H'
def rC (W : Wd) (k : Store → D → D → (Bool → Prop) → Prop) : R2 := fun x y H Q => ∃ B st d1 d2 P, RH W B st H ∧ Rep W B st H x d1 ∧ Rep W B st H y d2 ∧ k st d1 d2 P ∧ ∀ b, P b → Q (.bl b) H
theorem OpR.imp {X : Cx} {f : Value → Value → Sem Value} {r r' : R2} (h : OpR X f r) (i : ∀ x y H Q, r' x y H Q → r x y H Q) : OpR X f r' := fun pins s σ H x y v u Q I rx ry q => h pins s σ H x y v u Q I rx ry (i _ _ _ _ q)
section
variable {X : Cx} {W : Wd}
theorem op_no {f : Value → Value → Sem Value} : OpR X f (fun _ _ _ _ => False) := fun _ _ _ _ _ _ _ _ _ _ _ _ q => q.elim
theorem op_bi {op : Operator} {g : Bool → Int → Int} (h : ∀ {prog : Program} {w : World} {A : Around} {E : Value → Shared → Prop} {s : Shared} {Q : Value → Shared → Prop} {a : Bool} {b : Int} {u : Tok}, Q (.int (g a b) s.toks) { s with toks := s.toks + 1 } → wpAny (model prog w) A (binaryOp op (.bool a) (.int b u)) Q E s) :
    OpR X (binaryOp op) (fun x y H Q => ∃ i k, x = .bl i ∧ y = .int k ∧ Q (.int (g i k)) H) := by
  intro pins s σ H x y v u Q I rx ry ⟨i, k, e1, e2, q⟩
  subst e1 e2
  obtain ⟨t, rfl⟩ := ry
  cases (show v = Value.bool i from rx)
  exact h ⟨.int (g i k), H, I.tok _, ⟨_, rfl⟩, q⟩
theorem op_ib {op : Operator} {g : Int → Bool → Int} (h : ∀ {prog : Program} {w : World} {A : Around} {E : Value → Shared → Prop} {s : Shared} {Q : Value → Shared → Prop} {a : Int} {b : Bool} {u : Tok}, Q (.int (g a b) s.toks) { s with toks := s.toks + 1 } → wpAny (model prog w) A (binaryOp op (.int a u) (.bool b)) Q E s) :
    OpR X (binaryOp op) (fun x y H Q => ∃ i k, x = .int i ∧ y = .bl k ∧ Q (.int (g i k)) H) := by
  intro pins s σ H x y v u Q I rx ry ⟨i, k, e1, e2, q⟩
  subst e1 e2
  obtain ⟨t, rfl⟩ := rx
  cases (show u = Value.bool k from ry)
  exact h ⟨.int (g i k), H, I.tok _, ⟨_, rfl⟩, q⟩
theorem bin_add (hK : X.K = W.K) : OpR X (binaryOp .Add) (r2 W fun _ => opR .Add) := by
  refine OpR.imp (((op_add.or op_add_str).or op_catA).or (op_bi IntBool.add_bool_int)) fun x y H Q ⟨B, st, d1, d2, P, h, r1, r2, k, q⟩ => ?_
  cases d1 <;> cases d2 <;> simp only [opR] at k
  · cases r1; cases r2
    exact .inr ⟨_, _, rfl, rfl, q _ _ _ k (.int _) (Same.refl _)⟩
  · cases r1; cases r2
    exact .inl (.inl (.inl ⟨_, _, rfl, rfl, q _ _ _ k (.int _) (Same.refl _)⟩))
  · cases r1; cases r2
    exact .inl (.inl (.inr ⟨_, _, rfl, rfl, k.1, q _ _ _ k.2 (.str _) (Same.refl _)⟩))
  · cases r1 with
    | tup f1 l1 =>
      cases r2 with
      | tup f2 l2 =>
        refine .inl (.inr ⟨_, _, _, _, rfl, rfl, by rw [hK]; exact f1.sq, by rw [hK]; exact f2.sq, by rw [l1.length, l2.length]; exact k.1, fun e => ?_, fun _ e => ?_, fun _ _ p hp => ?_⟩)
        · subst e
          cases l1
          exact q _ _ _ k.2 (.tup f2 l2) (Same.refl _)
        · subst e
          cases l2
          exact q _ _ _ k.2 (by rw [List.append_nil]; exact .tup f1 l1) (Same.refl _)
        · exact q _ _ _ k.2 (Rep.newTup h hp (l1.app l2)) (same_upd hp)
theorem int_op {f : Value → Value → Sem Value} {C : Int → Int → Prop} {g : Int → Int → V} {k : Store → D → D → (D → Prop) → Prop} (h : OpR X f (rI C g))
    (hk : ∀ st a b P, k st a b P → ∃ i j, a = .int i ∧ b = .int j ∧ C i j ∧ ∃ d, P d ∧ ∀ B st H, Rep W B st H (g i j) d) : OpR X f (r2 W k) := by
  refine OpR.imp h fun x y H Q ⟨B, st, d1, d2, P, h, r1, r2, kk, q⟩ => ?_
  obtain ⟨i, j, rfl, rfl, hc, d, hp, hr⟩ := hk _ _ _ _ kk
  cases r1; cases r2
  exact ⟨_, _, rfl, rfl, hc, q _ _ _ hp (hr _ _ _) (Same.refl _)⟩
theorem rI_of {g : Int → Int → V} {f : Value → Value → Sem Value} (h : OpR X f (rI0 g)) : OpR X f (rI (fun _ _ => True) g) := OpR.imp h fun _ _ _ _ ⟨i, j, a, b, _, q⟩ => ⟨i, j, a, b, q⟩
theorem bin_sub : OpR X (binaryOp .Sub) (r2 W fun _ => opR .Sub) := by
  refine OpR.imp ((op_sub.or (op_bi IntBool.sub_bool_int)).or (op_ib IntBool.sub_int_bool)) fun x y H Q ⟨B, st, d1, d2, P, h, r1, r2, k, q⟩ => ?_
  cases d1 <;> cases d2 <;> simp only [opR] at k
  · cases r1; cases r2
    exact .inl (.inr ⟨_, _, rfl, rfl, q _ _ _ k (.int _) (Same.refl _)⟩)
  · cases r1; cases r2
    exact .inr ⟨_, _, rfl, rfl, q _ _ _ k (.int _) (Same.refl _)⟩
  · cases r1; cases r2
    exact .inl (.inl ⟨_, _, rfl, rfl, q _ _ _ k (.int _) (Same.refl _)⟩)
theorem bin_mod : OpR X (binaryOp .Mod) (r2 W fun _ => opR .Mod) := int_op op_mod fun st a b P k => by
  cases a <;> cases b <;> simp only [opR] at k
  exact ⟨_, _, rfl, rfl, k.1, _, k.2, fun _ _ _ => .int _⟩
theorem bin_fdiv : OpR X (binaryOp .FloorDiv) (r2 W fun _ => opR .FloorDiv) := int_op op_fdiv fun st a b P k => by
  cases a <;> cases b <;> simp only [opR] at k
  exact ⟨_, _, rfl, rfl, k.1, _, k.2, fun _ _ _ => .int _⟩
theorem bin_pow : OpR X (binaryOp .Pow) (r2 W fun _ => opR .Pow) := int_op op_pow fun st a b P k => by
  cases a <;> cases b <;> simp only [opR] at k
  exact ⟨_, _, rfl, rfl, k.1, _, k.2, fun _ _ _ => .int _⟩
theorem RepL.rep {B : Addr → Prop} {st : Store} {H : Hp} {vs : List V} {ds : List D} (r : RepL W B st H vs ds) : ∀ n : Nat, RepL W B st H (List.replicate n vs).flatten (List.replicate n ds).flatten
  | 0 => by simp; exact .nil
  | n + 1 => by
    rw [List.replicate_succ, List.replicate_succ, List.flatten_cons, List.flatten_cons]
    exact r.app (RepL.rep r n)
theorem bin_mul (hK : X.K = W.K) : OpR X (binaryOp .Mult) (r2 W fun _ => opR .Mult) := by
  refine OpR.imp (((op_mul.or op_mulW).or op_repT).or (op_ib IntBool.mul_int_bool)) fun x y H Q ⟨B, st, d1, d2, P, h, r1, r2, k, q⟩ => ?_
  cases d1 <;> cases d2 <;> simp only [opR] at k
  · cases r1; cases r2
    exact .inr ⟨_, _, rfl, rfl, q _ _ _ k (.int _) (Same.refl _)⟩
  · cases r1; cases r2
    rcases k.1 with c | c
    · exact .inl (.inl (.inl ⟨_, _, rfl, rfl, c, q _ _ _ k.2 (.int _) (Same.refl _)⟩))
    · exact .inl (.inl (.inr ⟨_, _, rfl, rfl, c, q _ _ _ k.2 (.int _) (Same.refl _)⟩))
  · cases r1 with
    | tup f1 l1 =>
      cases r2
      obtain ⟨k1, k2, k3, k4, k5⟩ := k
      refine .inl (.inr ⟨_, _, _, rfl, rfl, by rw [hK]; exact f1.sq, fun e => ?_, k2, k3, by rw [l1.length]; exact k4, fun p hp => q _ _ _ k5 (Rep.newTup h hp (l1.rep _)) (same_upd hp)⟩)
      subst e; cases l1; exact k1 rfl
theorem bin_all (hK : X.K = W.K) (o : Operator) (ho : o = .Add ∨ o = .Sub ∨ o = .Mult ∨ o = .Mod ∨ o = .FloorDiv ∨ o = .Pow) : OpR X (binaryOp o) (r2 W fun _ => opR o) := by
  rcases ho with rfl | rfl | rfl | rfl | rfl | rfl
  · exact bin_add hK
  · exact bin_sub
  · exact bin_mul hK
  · exact bin_mod
  · exact bin_fdiv
  · exact bin_pow

/-! comparisons -/
theorem cmp_eq (hK : X.K = W.K) (hu : X.A.units + 64 < cLine) : OpR X (compareOp .Eq) (rC W fun st => cmpR st .Eq) := by
  refine OpR.imp (op_eqD hu) fun x y H Q ⟨B, st, d1, d2, P, h, r1, r2, k, q⟩ => ?_
  obtain ⟨k1, k2, k3⟩ := k
  exact ⟨_, _, by rw [hK]; exact rsv_dp h r1 k1, by rw [hK]; exact rsv_dp h r2 k2, shaped_py k1, shaped_py k2, by rw [eqv_py _ _ 60 60 k1 k2]; exact q _ k3⟩
theorem cmp_ne (hK : X.K = W.K) (hu : X.A.units + 64 < cLine) : OpR X (compareOp .NotEq) (rC W fun st => cmpR st .NotEq) := by
  refine OpR.imp (op_neD hu) fun x y H Q ⟨B, st, d1, d2, P, h, r1, r2, k, q⟩ => ?_
  obtain ⟨k1, k2, k3⟩ := k
  exact ⟨_, _, by rw [hK]; exact rsv_dp h r1 k1, by rw [hK]; exact rsv_dp h r2 k2, shaped_py k1, shaped_py k2, by rw [eqv_py _ _ 60 60 k1 k2]; exact q _ k3⟩
theorem cmp_lt (hK : X.K = W.K) (hu : X.A.units + 64 < cLine) : OpR X (compareOp .Lt) (rC W fun st => cmpR st .Lt) := by
  intro pins s σ H x y v u Q I rx ry ⟨B, st, d1, d2, P, h, r1, r2, k, q⟩
  obtain ⟨k1, k2, k3, k4⟩ := k
  have p1 := Rep.dp 60 r1 k1
  have p2 := Rep.dp 60 r2 k2
  rw [← hK] at p1 p2
  obtain ⟨as, e1⟩ := Dp.reads I _ _ _ p1 rx
  obtain ⟨bs, e2⟩ := Dp.reads I _ _ _ p2 ry
  have l1 := (lay_py d1 60 k1).2
  have l2 := (lay_py d2 60 k2).2
  have al := alike_py d1 d2 k3
  show wpAny _ _ (richCompare .Lt v u) _ _ _
  refine PySem.W.rcLt_alike (py d1) (py d2) X.A s v u as bs e1 e2 al (fun z => ?_) (by omega) X.prog X.w _ _ ⟨.bl _, H, I, rfl, ?_⟩
  · cases d1 <;> simp [py] at z <;> simp [D.alike] at k3
  · rw [lt_py _ _ 60 60 k1 k2 k3]; exact q _ k4
theorem cmp_ints {f : Value → Value → Sem Value} {g : Int → Int → Bool} {k : Store → D → D → (Bool → Prop) → Prop} (h : OpR X f (rI0 fun i j => .bl (g i j)))
    (hk : ∀ st a b P, k st a b P → ∃ i j, a = .int i ∧ b = .int j ∧ P (g i j)) : OpR X f (rC W k) := by
  refine OpR.imp h fun x y H Q ⟨B, st, d1, d2, P, h, r1, r2, kk, q⟩ => ?_
  obtain ⟨i, j, rfl, rfl, hp⟩ := hk _ _ _ _ kk
  cases r1; cases r2
  exact ⟨_, _, rfl, rfl, q _ hp⟩
theorem cmp_le : OpR X (compareOp .LtE) (rC W fun st => cmpR st .LtE) := cmp_ints op_le fun st a b P k => by
  cases a <;> cases b <;> simp only [cmpR] at k
  exact ⟨_, _, rfl, rfl, k⟩
theorem cmp_gt : OpR X (compareOp .Gt) (rC W fun st => cmpR st .Gt) := cmp_ints op_gt fun st a b P k => by
  cases a <;> cases b <;> simp only [cmpR] at k
  exact ⟨_, _, rfl, rfl, k⟩
theorem cmp_ge : OpR X (compareOp .GtE) (rC W fun st => cmpR st .GtE) := cmp_ints op_ge fun st a b P k => by
  cases a <;> cases b <;> simp only [cmpR] at k
  exact ⟨_, _, rfl, rfl, k⟩
theorem cmp_is : OpR X (compareOp .Is) (rC W fun st => cmpR st .Is) := by
  refine OpR.imp op_isN fun x y H Q ⟨B, st, d1, d2, P, h, r1, r2, k, q⟩ => ?_
  obtain ⟨rfl, k2⟩ := k
  cases r2
  refine ⟨rfl, ?_⟩
  cases r1 <;> exact q _ k2
theorem cmp_isnot : OpR X (compareOp .IsNot) (rC W fun st => cmpR st .IsNot) := by
  refine OpR.imp op_notN fun x y H Q ⟨B, st, d1, d2, P, h, r1, r2, k, q⟩ => ?_
  obtain ⟨rfl, k2⟩ := k
  cases r2
  refine ⟨rfl, ?_⟩
  cases r1 <;> exact q _ k2
theorem any_py {a : D} : ∀ (xs : List D), a.dat 60 = true → D.dats 60 xs = true → ((pys xs).any fun z => PyData.eqv z (py a)) = xs.any fun x => x.eqv a
  | [], _, _ => rfl
  | x :: xs, h, hs => by
    simp only [D.dats, Bool.and_eq_true] at hs
    simp only [pys, List.any_cons, any_py xs h hs.2, eqv_py x a 60 60 hs.1 h]
theorem seq_reads (hK : X.K = W.K) {pins : List (Addr × Obj)} {σ : L2.St} {H : Hp} {s : Shared} {B : Addr → Prop} {st : Store} {v : V} {u : Value} {d : D} {xs : List D} (I : Inv X pins σ H s) (h : RH W B st H) (r : Rep W B st H v d) (ru : RelV v u) (e : seqOf st d = some xs) (hd : D.dats 60 xs = true) :
    (∃ as, Reads s.heap u (.list (pys xs)) as) ∨ ∃ as, Reads s.heap u (.tuple (pys xs)) as := by
  obtain ⟨a, vs, rfl, l, q | q⟩ := seq_of h r e
  · have p : Dp X.K H (.ref a) (.list (pys xs)) := .lst (by rw [hK]; exact q) (by rw [hK]; exact RepL.dp 60 l hd)
    obtain ⟨as, z⟩ := Dp.reads I _ _ _ p ru
    exact .inl ⟨as, z⟩
  · have p : Dp X.K H (.ref a) (.tuple (pys xs)) := .tup (by rw [hK]; exact q) (by rw [hK]; exact RepL.dp 60 l hd)
    obtain ⟨as, z⟩ := Dp.reads I _ _ _ p ru
    exact .inr ⟨as, z⟩
theorem in_seqs (hK : X.K = W.K) (hu : X.A.units + 64 < cLine) : OpR X (compareOp .In) (rC W fun st a b k => ∃ xs, seqOf st b = some xs ∧ a.dat 60 = true ∧ D.dats 60 xs = true ∧ k (xs.any fun x => x.eqv a)) := by
  intro pins s σ H x y v u Q I rx ry ⟨B, st, d1, d2, P, h, r1, r2, ⟨xs, k1, k2, k3, k4⟩, q⟩
  have p1 := Rep.dp 60 r1 k2
  rw [← hK] at p1
  obtain ⟨as, e1⟩ := Dp.reads I _ _ _ p1 rx
  have l1 := lay_py d1 60 k2
  have l2 := lays_py xs 60 k3
  rcases seq_reads hK I h r2 ry k1 k3 with ⟨bs, e2⟩ | ⟨bs, e2⟩
  · refine SeqAt.in_list_reads e2 e1 l2.1 l1.1 (by have := l1.2; omega) ⟨.bl _, H, I, rfl, ?_⟩
    rw [any_py xs k2 k3]; exact q _ k4
  · refine SeqAt.in_tuple_reads e2 e1 l2.1 l1.1 (by have := l1.2; omega) ⟨.bl _, H, I, rfl, ?_⟩
    rw [any_py xs k2 k3]; exact q _ k4
theorem notin_seqs (hK : X.K = W.K) (hu : X.A.units + 64 < cLine) : OpR X (compareOp .NotIn) (rC W fun st a b k => ∃ xs, seqOf st b = some xs ∧ a.dat 60 = true ∧ D.dats 60 xs = true ∧ k (!xs.any fun x => x.eqv a)) := by
  intro pins s σ H x y v u Q I rx ry ⟨B, st, d1, d2, P, h, r1, r2, ⟨xs, k1, k2, k3, k4⟩, q⟩
  have p1 := Rep.dp 60 r1 k2
  rw [← hK] at p1
  obtain ⟨as, e1⟩ := Dp.reads I _ _ _ p1 rx
  have l1 := lay_py d1 60 k2
  have l2 := lays_py xs 60 k3
  rcases seq_reads hK I h r2 ry k1 k3 with ⟨bs, e2⟩ | ⟨bs, e2⟩
  · refine SeqAt.notIn_list_reads e2 e1 l2.1 l1.1 (by have := l1.2; omega) ⟨.bl _, H, I, rfl, ?_⟩
    rw [any_py xs k2 k3]; exact q _ k4
  · refine SeqAt.notIn_tuple_reads e2 e1 l2.1 l1.1 (by have := l1.2; omega) ⟨.bl _, H, I, rfl, ?_⟩
    rw [any_py xs k2 k3]; exact q _ k4
theorem in_text : OpR X (compareOp .In) (rC W fun _ a b k => ∃ x y, a = .str x ∧ b = .str y ∧ k (!(Builtin.Str.occurrences y x 0 y.length 1).isEmpty)) := by
  refine OpR.imp op_in_str fun x y H Q ⟨B, st, d1, d2, P, h, r1, r2, ⟨x', y', e1, e2, k⟩, q⟩ => ?_
  subst e1 e2
  cases r1; cases r2
  exact ⟨_, _, rfl, rfl, q _ k⟩
theorem notin_text : OpR X (compareOp .NotIn) (rC W fun _ a b k => ∃ x y, a = .str x ∧ b = .str y ∧ k (Builtin.Str.occurrences y x 0 y.length 1).isEmpty) := by
  refine OpR.imp op_notin_str fun x y H Q ⟨B, st, d1, d2, P, h, r1, r2, ⟨x', y', e1, e2, k⟩, q⟩ => ?_
  subst e1 e2
  cases r1; cases r2
  refine ⟨_, _, rfl, rfl, ?_⟩
  rw [Bool.not_not]
  exact q _ k
end
end G
/-! The small language's expressions, one rule a construct. -/
namespace G
open PySem PySem.Spec PyProof.Rows L2
abbrev M := Env → Store → Post → Prop
abbrev MA := Env → Store → (List D → Store → Prop) → Prop
section
variable {X : Cx} {W : Wd} {pos : Pos}

theorem LE.mono {m m' : M} (h : ∀ ρ st P, m' ρ st P → m ρ st P) : ∀ σ H Q, LE W m' σ H Q → LE W m σ H Q := fun σ H Q ⟨B, ρ, st, P, r, k, q⟩ => ⟨B, ρ, st, P, r, h _ _ _ k, q⟩
theorem _root_.L2.PE.to {e : Expr} {m m' : M} (h : PE X e (LE W m)) (i : m' = m) : PE X e (LE W m') := by rw [i]; exact h
theorem _root_.L2.PT.to {e : Expr} {m m' : M} (h : PT X e (LT W m)) (i : m' = m) : PT X e (LT W m') := by rw [i]; exact h
theorem _root_.L2.PA.to {e : List Expr} {m m' : MA} (h : PA X e (LA W m)) (i : m' = m) : PA X e (LA W m') := by rw [i]; exact h

/-! ### names, constants -/
theorem s_var {i : Nat} {x : Str} (hN : X.N[i]? = some x) (hv : Vis X.env.scope x) (hd : (x == ("__debug__" : Str)) = false) (hcd : (x == ("__classdict__" : Str)) = false) :
    PE X (.Name x pos) (LE W fun ρ st Q => match ρ[i]? with | some (some d) => Q d st | _ => False) := by
  refine PE.mono (pe_var hN hv hd hcd) fun σ H Q ⟨B, ρ, st, P, r, k, q⟩ => ?_
  dsimp only at k
  split at k
  · rename_i d e
    obtain ⟨v, h1, h2⟩ := r.var i d e
    exact ⟨v, h1, q d st v H k h2 r.ob (Grow.refl _ _)⟩
  · exact k.elim
theorem s_const {e : Expr} {v : V} {d : D} (h : PE X e (tC v)) (hr : ∀ B st H, Rep W B st H v d) : PE X e (LE W fun _ st Q => Q d st) :=
  PE.mono h fun σ H Q ⟨B, ρ, st, P, r, k, q⟩ => q d st v H k (hr B st H) r.ob (Grow.refl _ _)

/-! ### two values -/
theorem lift2 {ma mb : M} {k : Store → D → D → (D → Prop) → Prop} : ∀ σ H Q, LE W (fun ρ st P => ma ρ st fun x st1 => mb ρ st1 fun y st2 => k st2 x y fun z => P z st2) σ H Q →
    tOp (r2 W k) (LE W ma) (LE W mb) σ H Q := by
  intro σ H Q ⟨B, ρ, st, P, r, h, q⟩
  refine ⟨B, ρ, st, _, r, h, fun d1 st1 v1 H1 h1 r1 o1 g1 => ?_⟩
  refine ⟨B, ρ, st1, _, r.step g1 o1, h1, fun d2 st2 v2 H2 h2 r2 o2 g2 => ?_⟩
  exact ⟨B, st2, d1, d2, _, o2, r1.grow g2, r2, h2, fun d v H' hp rv s => q d st2 v H' hp rv (o2.same s) (g1.trans (g2.trans (Grow.same s)))⟩
theorem lift2c {ma mb : M} {k : Store → D → D → (Bool → Prop) → Prop} : ∀ σ H Q, LE W (fun ρ st P => ma ρ st fun x st1 => mb ρ st1 fun y st2 => k st2 x y fun z => P (.bl z) st2) σ H Q →
    tOp (rC W k) (LE W ma) (LE W mb) σ H Q := by
  intro σ H Q ⟨B, ρ, st, P, r, h, q⟩
  refine ⟨B, ρ, st, _, r, h, fun d1 st1 v1 H1 h1 r1 o1 g1 => ?_⟩
  refine ⟨B, ρ, st1, _, r.step g1 o1, h1, fun d2 st2 v2 H2 h2 r2 o2 g2 => ?_⟩
  exact ⟨B, st2, d1, d2, _, o2, r1.grow g2, r2, h2, fun b hp => q (.bl b) st2 (.bl b) H2 hp (.bl b) o2 (g1.trans g2)⟩
theorem s_bin {a b : Expr} {ma mb : M} {op : Operator} {k : Store → D → D → (D → Prop) → Prop} (ho : OpR X (binaryOp op) (r2 W k)) (ha : PE X a (LE W ma)) (hb : PE X b (LE W mb)) :
    PE X (.BinOp a op b pos) (LE W fun ρ st P => ma ρ st fun x st1 => mb ρ st1 fun y st2 => k st2 x y fun z => P z st2) := (pe_op ho ha hb).mono lift2
theorem s_cmp {a b : Expr} {ma mb : M} {op : CmpOp} {k : Store → D → D → (Bool → Prop) → Prop} (ho : OpR X (compareOp op) (rC W k)) (ha : PE X a (LE W ma)) (hb : PE X b (LE W mb)) (hm : behindInMarks op b = false) :
    PE X (.Compare a [op] [b] pos) (LE W fun ρ st P => ma ρ st fun x st1 => mb ρ st1 fun y st2 => k st2 x y fun z => P (.bl z) st2) := (pe_cmpR ho ha hb hm).mono lift2c
/-- a test by what the expression gives -/
theorem testOf {m : M} {t : TE} (i : ∀ σ H Q, LE W m σ H Q → t σ H Q) : ∀ σ H Q, LT W m σ H Q → t σ H (fun x H' => ∃ k, x = .bl k ∧ Q k H') := by
  intro σ H Q ⟨B, ρ, st, P, r, k, q⟩
  refine i σ H _ ⟨B, ρ, st, P, r, k, fun d st' v H' hp rv o g => ?_⟩
  obtain ⟨b, rfl, hq⟩ := q d st' H' hp o g
  cases rv
  exact ⟨b, rfl, hq⟩
theorem s_cmpT {a b : Expr} {ma mb : M} {op : CmpOp} {k : Store → D → D → (Bool → Prop) → Prop} (ho : OpR X (compareOp op) (rC W k)) (ha : PE X a (LE W ma)) (hb : PE X b (LE W mb)) (hm : behindInMarks op b = false) :
    PT X (.Compare a [op] [b] pos) (LT W fun ρ st P => ma ρ st fun x st1 => mb ρ st1 fun y st2 => k st2 x y fun z => P (.bl z) st2) := (pt_cmpR ho ha hb hm).mono (testOf lift2c)
theorem s_val {e : Expr} {m : M} (h : PE X e (LE W m)) (he : ∀ whole, isTrue e X.env whole = (do let v ← whole; standAt e.pos; holding [v] (truthy v))) : PT X e (LT W m) :=
  (pt_val h he).mono (testOf (t := LE W m) fun _ _ _ h => h)
/-! a < b < c -/
theorem lift3c {ma mb mc : M} {k k' : Store → D → D → (Bool → Prop) → Prop} : ∀ σ H Q, LE W (fun ρ st P => ma ρ st fun x st1 => mb ρ st1 fun y st2 => k st2 x y fun z =>
      if z = true then mc ρ st2 fun w st3 => k' st3 y w fun z' => P (.bl z') st3 else P (.bl false) st2) σ H Q →
    tChain (rC W k) (rC W k') (LE W ma) (LE W mb) (LE W mc) σ H Q := by
  intro σ H Q ⟨B, ρ, st, P, r, h, q⟩
  refine ⟨B, ρ, st, _, r, h, fun d1 st1 v1 H1 h1 r1 o1 g1 => ?_⟩
  refine ⟨B, ρ, st1, _, r.step g1 o1, h1, fun d2 st2 v2 H2 h2 r2 o2 g2 => ?_⟩
  refine ⟨B, st2, d1, d2, _, o2, r1.grow g2, r2, h2, fun b hp => ⟨b, rfl, ?_⟩⟩
  cases b with
  | true =>
    simp only [if_true] at hp ⊢
    refine ⟨B, ρ, st2, _, r.step (g1.trans g2) o2, hp, fun d3 st3 v3 H3 h3 r3 o3 g3 => ?_⟩
    exact ⟨B, st3, d2, d3, _, o3, r2.grow g3, r3, h3, fun b hp => q (.bl b) st3 (.bl b) H3 hp (.bl b) o3 (g1.trans (g2.trans g3))⟩
  | false =>
    simp only [Bool.false_eq_true, if_false] at hp ⊢
    exact q (.bl false) st2 (.bl false) H2 hp (.bl false) o2 (g1.trans g2)
theorem s_cmp2 {a b c : Expr} {ma mb mc : M} {op op' : CmpOp} {k k' : Store → D → D → (Bool → Prop) → Prop} (ho : OpR X (compareOp op) (rC W k)) (ho' : OpR X (compareOp op') (rC W k')) (ha : PE X a (LE W ma)) (hb : PE X b (LE W mb)) (hc : PE X c (LE W mc))
    (h1 : lastMarks [op, op'] [b, c] = false) : PE X (.Compare a [op, op'] [b, c] pos) (LE W fun ρ st P => ma ρ st fun x st1 => mb ρ st1 fun y st2 => k st2 x y fun z =>
      if z = true then mc ρ st2 fun w st3 => k' st3 y w fun z' => P (.bl z') st3 else P (.bl false) st2) := (pe_chain ho ho' ha hb hc h1).mono lift3c

theorem s_cmp2T {a b c : Expr} {ma mb mc : M} {op op' : CmpOp} {k k' : Store → D → D → (Bool → Prop) → Prop} (ho : OpR X (compareOp op) (rC W k)) (ho' : OpR X (compareOp op') (rC W k')) (ha : PE X a (LE W ma)) (hb : PE X b (LE W mb)) (hc : PE X c (LE W mc))
    (h1 : lastMarks [op, op'] [b, c] = false) : PT X (.Compare a [op, op'] [b, c] pos) (LT W fun ρ st P => ma ρ st fun x st1 => mb ρ st1 fun y st2 => k st2 x y fun z =>
      if z = true then mc ρ st2 fun w st3 => k' st3 y w fun z' => P (.bl z') st3 else P (.bl false) st2) := by
  refine (pt_chain ho ho' ha hb hc h1).mono fun σ H Q hq => ?_
  obtain ⟨B, ρ, st, P, r, h, q⟩ := hq
  refine ⟨B, ρ, st, _, r, h, fun d1 st1 v1 H1 h1 r1 o1 g1 => ?_⟩
  refine ⟨B, ρ, st1, _, r.step g1 o1, h1, fun d2 st2 v2 H2 h2 r2 o2 g2 => ?_⟩
  refine ⟨B, st2, d1, d2, _, o2, r1.grow g2, r2, h2, fun b hp => ⟨b, rfl, ?_⟩⟩
  cases b with
  | true =>
    simp only [if_true] at hp ⊢
    refine ⟨B, ρ, st2, _, r.step (g1.trans g2) o2, hp, fun d3 st3 v3 H3 h3 r3 o3 g3 => ?_⟩
    refine ⟨B, st3, d2, d3, _, o3, r2.grow g3, r3, h3, fun b hp => ?_⟩
    obtain ⟨b', e, z⟩ := q _ _ _ hp o3 (g1.trans (g2.trans g3))
    cases e
    exact ⟨b, rfl, z⟩
  | false =>
    simp only [Bool.false_eq_true, if_false] at hp ⊢
    obtain ⟨b', e, z⟩ := q _ _ _ hp o2 (g1.trans g2)
    cases e
    exact ⟨false, rfl, z⟩

/-! ### arguments -/
theorem s_nil : PA X [] (LA W fun _ st Q => Q [] st) := PA.mono pa_nil fun σ H Q ⟨B, ρ, st, P, r, k, q⟩ => q [] st [] H k .nil r.ob (Grow.refl _ _)
theorem s_cons {e : Expr} {es : List Expr} {m : M} {ms : MA} (ha : PE X e (LE W m)) (hb : PA X es (LA W ms)) (hs : starEach (e :: es) X.env = (false, eval e X.env) :: starEach es X.env) :
    PA X (e :: es) (LA W fun ρ st Q => m ρ st fun d st1 => ms ρ st1 fun ds st2 => Q (d :: ds) st2) := by
  refine PA.mono (pa_cons ha hb hs) fun σ H Q ⟨B, ρ, st, P, r, h, q⟩ => ?_
  refine ⟨B, ρ, st, _, r, h, fun d1 st1 v1 H1 h1 r1 o1 g1 => ?_⟩
  refine ⟨B, ρ, st1, _, r.step g1 o1, h1, fun d2 st2 v2 H2 h2 r2 o2 g2 => ?_⟩
  exact q _ _ _ _ h2 (.cons (r1.grow g2) r2) o2 (g1.trans g2)
theorem s_tup {es : List Expr} {ms : MA} {k : Nat} (h : PA X es (LA W ms)) : PE X (.Tuple es k pos) (LE W fun ρ st Q => ms ρ st fun ds st1 => ds.length ≤ sizeLine ∧ Q (.tup ds) st1) := by
  refine PE.mono (pe_tup h) fun σ H Q ⟨B, ρ, st, P, r, h, q⟩ => ?_
  refine ⟨B, ρ, st, _, r, h, fun d1 st1 v1 H1 h1 r1 o1 g1 => ⟨by rw [r1.length]; exact h1.1, fun p hp => ?_⟩⟩
  exact q _ st1 _ _ h1.2 (Rep.newTup o1 hp r1) (o1.same (same_upd hp)) (g1.trans (Grow.same (same_upd hp)))

/-! ### and, or, not, if -/
theorem tru_of {B : Addr → Prop} {st : Store} {H : Hp} {v : V} {d : D} {b : Bool} (r : Rep W B st H v d) (e : truth d = some b) : TruV W.K v H b := by
  cases r with
  | non => cases e; rfl
  | bl b => cases e; rfl
  | int i => cases e; show decide (i ≠ 0) = (i != 0); rw [Bool.eq_iff_iff]; simp
  | str x =>
    unfold truth at e
    dsimp only at e
    split at e
    · rename_i hx
      cases e
      refine ⟨Nat.le_trans hx (by decide), ?_⟩
      rw [Bool.eq_iff_iff]; simp
    · cases e
  | tup f l =>
    cases e
    rename_i a vs ds
    refine .inr (.inl ⟨vs, f.sq, ?_⟩)
    cases l <;> rfl
  | lst z f l =>
    cases e
    rename_i a vs ds
    refine .inl ⟨vs, .of f, ?_⟩
    cases l <;> rfl
  | _ => cases e
theorem s_one {op : BoolOp} {a : Expr} {m : M} (h : PE X a (LE W m)) : PE X (.BoolOp op [a] pos) (LE W m) := pe_one h
theorem s_and {a b : Expr} {rest : List Expr} {ma mb : M} (hK : X.K = W.K) (ha : PE X a (LE W ma)) (hb : PE X (.BoolOp .And (b :: rest) pos) (LE W mb)) :
    PE X (.BoolOp .And (a :: b :: rest) pos) (LE W fun ρ st Q => ma ρ st fun d st1 => ∃ t, d = .bl t ∧ (if t = true then mb ρ st1 Q else Q d st1)) := by
  refine PE.mono (pe_andT ha hb) fun σ H Q ⟨B, ρ, st, P, r, h, q⟩ => ?_
  refine ⟨B, ρ, st, _, r, h, fun d1 st1 v1 H1 ⟨t, h1, h2⟩ r1 o1 g1 => ⟨t, by rw [hK]; exact tru_of r1 (by first | exact h1 | (rw [h1]; rfl)), ?_⟩⟩
  cases t with
  | true => simp only [if_true] at h2 ⊢; exact ⟨B, ρ, st1, P, r.step g1 o1, h2, fun d2 st2 v2 H2 h3 r2 o2 g2 => q _ _ _ _ h3 r2 o2 (g1.trans g2)⟩
  | false => simp only [Bool.false_eq_true, if_false] at h2 ⊢; exact q _ _ _ _ h2 r1 o1 g1
theorem s_or {a b : Expr} {rest : List Expr} {ma mb : M} (hK : X.K = W.K) (ha : PE X a (LE W ma)) (hb : PE X (.BoolOp .Or (b :: rest) pos) (LE W mb)) :
    PE X (.BoolOp .Or (a :: b :: rest) pos) (LE W fun ρ st Q => ma ρ st fun d st1 => ∃ t, d = .bl t ∧ (if t = false then mb ρ st1 Q else Q d st1)) := by
  refine PE.mono (pe_orT ha hb) fun σ H Q ⟨B, ρ, st, P, r, h, q⟩ => ?_
  refine ⟨B, ρ, st, _, r, h, fun d1 st1 v1 H1 ⟨t, h1, h2⟩ r1 o1 g1 => ⟨t, by rw [hK]; exact tru_of r1 (by first | exact h1 | (rw [h1]; rfl)), ?_⟩⟩
  cases t with
  | false => simp only [if_true, Bool.false_eq_true, if_false] at h2 ⊢; exact ⟨B, ρ, st1, P, r.step g1 o1, h2, fun d2 st2 v2 H2 h3 r2 o2 g2 => q _ _ _ _ h3 r2 o2 (g1.trans g2)⟩
  | true => simp only [Bool.true_eq_false, if_false, if_true] at h2 ⊢; exact q _ _ _ _ h2 r1 o1 g1
theorem s_orv {a b : Expr} {rest : List Expr} {ma mb : M} (hK : X.K = W.K) (ha : PE X a (LE W ma)) (hb : PE X (.BoolOp .Or (b :: rest) pos) (LE W mb)) :
    PE X (.BoolOp .Or (a :: b :: rest) pos) (LE W fun ρ st Q => ma ρ st fun d st1 => ∃ t, truth d = some t ∧ (if t = false then mb ρ st1 Q else Q d st1)) := by
  refine PE.mono (pe_orT ha hb) fun σ H Q ⟨B, ρ, st, P, r, h, q⟩ => ?_
  refine ⟨B, ρ, st, _, r, h, fun d1 st1 v1 H1 ⟨t, h1, h2⟩ r1 o1 g1 => ⟨t, by rw [hK]; exact tru_of r1 (by first | exact h1 | (rw [h1]; rfl)), ?_⟩⟩
  cases t with
  | false => simp only [if_true, Bool.false_eq_true, if_false] at h2 ⊢; exact ⟨B, ρ, st1, P, r.step g1 o1, h2, fun d2 st2 v2 H2 h3 r2 o2 g2 => q _ _ _ _ h3 r2 o2 (g1.trans g2)⟩
  | true => simp only [Bool.true_eq_false, if_false, if_true] at h2 ⊢; exact q _ _ _ _ h2 r1 o1 g1
/-! the same as tests -/
theorem w_one {a : Expr} {m : M} {op : BoolOp} (h : PT X a (LT W m)) : PW X (.BoolOp op [a] pos) (LT W m) := by
  cases op with
  | And => exact pw_and1 h
  | Or => exact pw_or1 h
theorem _root_.L2.PW.mono {X : Cx} {e : Expr} {t t' : TT} (h : PW X e t) (i : ∀ σ H Q, t' σ H Q → t σ H Q) : PW X e t' := ⟨fun wh pins s σ H Q I w => h.run wh pins s σ H Q I (i σ H Q w)⟩
theorem w_and {a b : Expr} {rest : List Expr} {ma mb : M} (ha : PT X a (LT W ma)) (hb : PW X (.BoolOp .And (b :: rest) pos) (LT W mb)) :
    PW X (.BoolOp .And (a :: b :: rest) pos) (LT W fun ρ st Q => ma ρ st fun d st1 => ∃ t, d = .bl t ∧ (if t = true then mb ρ st1 Q else Q d st1)) := by
  refine PW.mono (pw_and ha hb) fun σ H Q ⟨B, ρ, st, P, r, h, q⟩ => ?_
  refine ⟨B, ρ, st, _, r, h, fun d1 st1 H1 ⟨t, h1, h2⟩ o1 g1 => ⟨t, h1, ?_⟩⟩
  cases t with
  | true => simp only [if_true] at h2 ⊢; exact ⟨B, ρ, st1, P, r.step g1 o1, h2, fun d2 st2 H2 h3 o2 g2 => q _ _ _ h3 o2 (g1.trans g2)⟩
  | false =>
    simp only [Bool.false_eq_true, if_false] at h2 ⊢
    obtain ⟨b', e, z⟩ := q _ _ _ h2 o1 g1
    rw [h1] at e; cases e; exact z
theorem w_or {a b : Expr} {rest : List Expr} {ma mb : M} (ha : PT X a (LT W ma)) (hb : PW X (.BoolOp .Or (b :: rest) pos) (LT W mb)) :
    PW X (.BoolOp .Or (a :: b :: rest) pos) (LT W fun ρ st Q => ma ρ st fun d st1 => ∃ t, d = .bl t ∧ (if t = false then mb ρ st1 Q else Q d st1)) := by
  refine PW.mono (pw_or ha hb) fun σ H Q ⟨B, ρ, st, P, r, h, q⟩ => ?_
  refine ⟨B, ρ, st, _, r, h, fun d1 st1 H1 ⟨t, h1, h2⟩ o1 g1 => ⟨t, h1, ?_⟩⟩
  cases t with
  | false => simp only [if_true, Bool.false_eq_true, if_false] at h2 ⊢; exact ⟨B, ρ, st1, P, r.step g1 o1, h2, fun d2 st2 H2 h3 o2 g2 => q _ _ _ h3 o2 (g1.trans g2)⟩
  | true =>
    simp only [Bool.true_eq_false, if_false, if_true] at h2 ⊢
    obtain ⟨b', e, z⟩ := q _ _ _ h2 o1 g1
    rw [h1] at e; cases e; exact z
theorem s_not {a : Expr} {m : M} (h : PE X a (LE W m)) : PE X (.UnaryOp .Not a pos) (LE W fun ρ st Q => m ρ st fun x st1 => ∃ b, x = .bl b ∧ Q (.bl (!b)) st1) := by
  refine PE.mono (pe_not h) fun σ H Q ⟨B, ρ, st, P, r, h, q⟩ => ?_
  refine ⟨B, ρ, st, _, r, h, fun d1 st1 v1 H1 ⟨b, h1, h2⟩ r1 o1 g1 => ?_⟩
  subst h1; cases r1
  exact ⟨b, rfl, q _ _ _ _ h2 (.bl _) o1 g1⟩
theorem t_not {a : Expr} {m : M} (h : PT X a (LT W m)) : PT X (.UnaryOp .Not a pos) (LT W fun ρ st Q => m ρ st fun x st1 => ∃ b, x = .bl b ∧ Q (.bl (!b)) st1) := by
  refine PT.mono (pt_not h) fun σ H Q ⟨B, ρ, st, P, r, h, q⟩ => ?_
  refine ⟨B, ρ, st, _, r, h, fun d1 st1 H1 ⟨b, h1, h2⟩ o1 g1 => ⟨b, h1, ?_⟩⟩
  obtain ⟨b', e, z⟩ := q _ _ _ h2 o1 g1
  cases e; exact z
theorem s_ite {c a b : Expr} {mc ma mb : M} (hc : PT X c (LT W mc)) (ha : PE X a (LE W ma)) (hb : PE X b (LE W mb)) :
    PE X (.IfExp c a b pos) (LE W fun ρ st Q => mc ρ st fun x st1 => ∃ c, x = .bl c ∧ (if c = true then ma ρ st1 Q else mb ρ st1 Q)) := by
  refine PE.mono (pe_ifExp hc ha hb) fun σ H Q ⟨B, ρ, st, P, r, h, q⟩ => ?_
  refine ⟨B, ρ, st, _, r, h, fun d1 st1 H1 ⟨t, h1, h2⟩ o1 g1 => ⟨t, h1, ?_⟩⟩
  cases t with
  | true => simp only [if_true] at h2 ⊢; exact ⟨B, ρ, st1, P, r.step g1 o1, h2, fun d2 st2 v2 H2 h3 r2 o2 g2 => q _ _ _ _ h3 r2 o2 (g1.trans g2)⟩
  | false => simp only [Bool.false_eq_true, if_false] at h2 ⊢; exact ⟨B, ρ, st1, P, r.step g1 o1, h2, fun d2 st2 v2 H2 h3 r2 o2 g2 => q _ _ _ _ h3 r2 o2 (g1.trans g2)⟩
theorem s_neg {a : Expr} {m : M} (h : PE X a (LE W m)) : PE X (.UnaryOp .USub a pos) (LE W fun ρ st Q => m ρ st fun x st1 => ∃ i, x = .int i ∧ Q (.int (-i)) st1) := by
  refine PE.mono (pe_un un_neg h) fun σ H Q ⟨B, ρ, st, P, r, h, q⟩ => ?_
  refine ⟨B, ρ, st, _, r, h, fun d1 st1 v1 H1 ⟨b, h1, h2⟩ r1 o1 g1 => ?_⟩
  subst h1; cases r1
  exact ⟨b, rfl, q _ _ _ _ h2 (.int _) o1 g1⟩

/-! ### subscripts -/
theorem at_rep {B : Addr → Prop} {st : Store} {H : Hp} {vs : List V} {xs : List D} {j : Int} {d : D} (l : RepL W B st H vs xs) (e : atI xs j = some d) : ∃ v, atI vs j = some v ∧ Rep W B st H v d := by
  unfold atI at e ⊢
  rw [l.length]
  cases q : ixN xs.length j with
  | none => rw [q] at e; cases e
  | some n => rw [q] at e; exact l.get n d e
theorem ix_seqs (hK : X.K = W.K) : IxR X (r2 W fun st a i k => ∃ xs j d, seqOf st a = some xs ∧ i = .int j ∧ atI xs j = some d ∧ k d) := by
  intro value slice pins s σ H x y v u Q I rx ry ⟨B, st, d1, d2, P, h, r1, r2, ⟨xs, j, d, k1, k2, k3, k4⟩, q⟩ hs
  subst k2
  cases r2
  obtain ⟨a, vs, rfl, l, z⟩ := seq_of h r1 k1
  obtain ⟨w, e, rw'⟩ := at_rep l k3
  rcases z with z | z
  · exact ix_list value slice pins s σ H _ _ v u Q I rx ry ⟨_, _, _, _, rfl, rfl, by rw [hK]; exact z, e, q _ _ _ k4 rw' (Same.refl _)⟩ hs
  · exact ix_tup value slice pins s σ H _ _ v u Q I rx ry ⟨_, _, _, _, rfl, rfl, by rw [hK]; exact z, e, q _ _ _ k4 rw' (Same.refl _)⟩ hs
theorem s_idx {a b : Expr} {ma mb : M} {k : Store → D → D → (D → Prop) → Prop} (ho : IxR X (r2 W k)) (ha : PE X a (LE W ma)) (hb : PE X b (LE W mb)) (hs : PlainIx b) :
    PE X (.Subscript a b pos) (LE W fun ρ st P => ma ρ st fun x st1 => mb ρ st1 fun y st2 => k st2 x y fun z => P z st2) := (pe_ix ho ha hb hs).mono lift2
/-! slices -/
abbrev MO := Env → Store → (Option Int → Store → Prop) → Prop
def LO (W : Wd) (m : MO) : TO := fun σ H Q => ∃ B ρ st P, R W B ρ st σ H ∧ m ρ st P ∧ ∀ d st' H', P d st' → RH W B st' H' → Grow st H st' H' → Q d H'
theorem _root_.L2.PO.mono {X : Cx} {e : Option Expr} {t t' : TO} (h : PO X e t) (i : ∀ σ H Q, t' σ H Q → t σ H Q) : PO X e t' := ⟨fun pins s σ H Q I w => h.run pins s σ H Q I (i σ H Q w)⟩
theorem _root_.L2.PO.to {e : Option Expr} {m m' : MO} (h : PO X e (LO W m)) (i : m' = m) : PO X e (LO W m') := by rw [i]; exact h
theorem o_none : PO X none (LO W fun _ st Q => Q none st) := po_none.mono fun σ H Q ⟨B, ρ, st, P, r, k, q⟩ => q _ _ _ k r.ob (Grow.refl _ _)
/-- a bound that is a whole number -/
theorem o_some {e : Expr} {m : M} (h : PE X e (LE W m)) : PO X (some e) (LO W fun ρ st Q => m ρ st fun d st1 => ∃ i, d = .int i ∧ Q (some i) st1) := (po_some h).mono fun σ H Q ⟨B, ρ, st, P, r, k, q⟩ => by
  refine ⟨B, ρ, st, _, r, k, fun d st1 v H1 ⟨i, h1, h2⟩ r1 o1 g1 => ?_⟩
  subst h1; cases r1
  exact ⟨i, rfl, q _ _ _ h2 o1 g1⟩
theorem RepL.cut {B : Addr → Prop} {st : Store} {H : Hp} {vs : List V} {ds : List D} (r : RepL W B st H vs ds) (lo hi : Option Int) : RepL W B st H (cutV vs lo hi) (cutD ds lo hi) := by
  unfold cutV cutD
  rw [r.length]
  exact (r.drop _).take _
theorem cutD_all {ds : List D} {lo hi : Option Int} (h : HT.sIx ds.length 0 lo = 0 ∧ HT.sIx ds.length ds.length hi = ds.length) : cutD ds lo hi = ds := by
  unfold cutD
  rw [h.1, h.2]
  simp
theorem s_slc {a : Expr} {lo hi : Option Expr} {p2 : Pos} {ma : M} {ml mh : MO} (hK : X.K = W.K) (ha : PE X a (LE W ma)) (hl : PO X lo (LO W ml)) (hh : PO X hi (LO W mh)) :
    PE X (.Subscript a (.Slice lo hi none p2) pos) (LE W fun ρ st Q => ma ρ st fun x st1 => ml ρ st1 fun y st2 => mh ρ st2 fun z st3 => slcR x y z fun r => Q r st3) := by
  refine (pe_slice ((sl_tupA.or sl_str).or sl_list) ha hl hh).mono fun σ H Q ⟨B, ρ, st, P, r, h, q⟩ => ?_
  refine ⟨B, ρ, st, _, r, h, fun d1 st1 v1 H1 h1 r1 o1 g1 => ?_⟩
  refine ⟨B, ρ, st1, _, r.step g1 o1, h1, fun d2 st2 H2 h2 o2 g2 => ?_⟩
  refine ⟨B, ρ, st2, _, r.step (g1.trans g2) o2, h2, fun d3 st3 H3 h3 o3 g3 => ?_⟩
  have r3 := r1.grow (g2.trans g3)
  have g4 := g1.trans (g2.trans g3)
  unfold slcR at h3
  split at h3
  · cases r3 with
    | tup f l =>
      refine .inl (.inl ⟨_, _, rfl, by rw [hK]; exact f.sq, fun e => ?_, fun e p hp => ?_⟩)
      · rw [l.length] at e
        rw [cutD_all e] at h3
        exact q _ _ _ _ h3 (.tup f l) o3 g4
      · exact q _ _ _ _ h3 (Rep.newTup o3 hp (l.cut _ _)) (o3.same (same_upd hp)) (g4.trans (Grow.same (same_upd hp)))
  · cases r3
    exact .inl (.inr ⟨_, rfl, h3.1, q _ _ _ _ h3.2 (.str _) o3 g4⟩)
  · cases r3 with
    | lst z f l => exact .inr ⟨_, _, rfl, .of f, fun p hp => q _ _ _ _ h3 (Rep.newLst o3 hp (l.cut _ _)) (o3.same (same_upd hp)) (g4.trans (Grow.same (same_upd hp)))⟩
  · exact h3.elim
end
end G
/-! The small language: what makes new lists; what is walked; comprehensions. -/
namespace G
open PySem PySem.Spec PyProof.Rows L2
abbrev MP := Env → Store → (Ob → Store → Prop) → Prop
/-- a new object at p, not laid yet -/
def New (W : Wd) (B : Addr → Prop) (st : Store) (H : Hp) (p : Addr) (u : HO) : Ob → Prop
  | .lst ds => ∃ vs, u = .lst vs ∧ RepL W B st H vs ds
  | .dct kvs => ∃ es, u = .ext (RawD p es) ∧ (p == sysModules) = false ∧ RepK W B st H es kvs ∧ (kvs.map fun q => nk q.1).Nodup
  | .ins _ _ => False
def LP (W : Wd) (m : MP) : TE := fun σ H Q => ∃ B ρ st P, R W B ρ st σ H ∧ m ρ st P ∧
  ∀ o st' H' p u, P o st' → H' p = none → New W B st' H' p u o → RH W B st' H' → Grow st H st' H' → Q (.ref p) (upd H' p u)
section
variable {X : Cx} {W : Wd} {pos : Pos}
theorem _root_.L2.PE.toP {e : Expr} {m m' : MP} (h : PE X e (LP W m)) (i : m' = m) : PE X e (LP W m') := by rw [i]; exact h
theorem s_fr {e : Expr} {m : MP} (h : PE X e (LP W m)) : PE X e (LE W fun ρ st Q => m ρ st fun o st1 => match o with
    | .lst ds => Q (.lst ds) st1
    | .dct kvs => Q (.dct kvs) st1
    | _ => False) := by
  refine h.mono fun σ H Q ⟨B, ρ, st, P, r, h, q⟩ => ⟨B, ρ, st, _, r, h, fun o st1 H1 p u h1 hp n o1 g1 => ?_⟩
  cases o with
  | lst ds =>
    obtain ⟨vs, rfl, l⟩ := n
    exact q _ _ _ _ h1 (Rep.newLst o1 hp l) (o1.same (same_upd hp)) (g1.trans (Grow.same (same_upd hp)))
  | dct kvs =>
    obtain ⟨es, rfl, hs, l, nd⟩ := n
    exact q _ _ _ _ h1 (.dct (o1.free hp) upd_same hs (l.grow (Grow.same (same_upd hp))) nd) (o1.same (same_upd hp)) (g1.trans (Grow.same (same_upd hp)))
  | ins _ _ => exact n.elim
theorem s_bx {e : Expr} {m : MP} (h : PE X e (LP W m)) : PE X e (LE W fun ρ st Q => m ρ st fun o st1 => ∀ a, st1 a = none → Q (.loc a) (st1.set a o)) := by
  refine h.mono fun σ H Q ⟨B, ρ, st, P, r, h, q⟩ => ⟨B, ρ, st, _, r, h, fun o st1 H1 p u h1 hp n o1 g1 => ?_⟩
  obtain ⟨o2, g2⟩ := o1.alloc (u := u) (o' := o) hp fun g => by
    cases o with
    | lst ds => obtain ⟨vs, rfl, l⟩ := n; exact ⟨vs, upd_same, l.grow g⟩
    | dct kvs => obtain ⟨es, rfl, hs, l, nd⟩ := n; exact ⟨es, upd_same, hs, l.grow g, nd⟩
    | ins _ _ => exact n.elim
  exact q _ _ _ _ (h1 p (o1.free hp).1) (.loc p) o2 (g1.trans g2)
/-! ### lists -/
theorem p_disp {es : List Expr} {ms : MA} (h : PA X es (LA W ms)) : PE X (.List es pos) (LP W fun ρ st Q => ms ρ st fun ds st1 => ds.length ≤ sizeLine ∧ Q (.lst ds) st1) := by
  refine (pe_lst h).mono fun σ H Q ⟨B, ρ, st, P, r, h, q⟩ => ⟨B, ρ, st, _, r, h, fun d1 st1 v1 H1 h1 r1 o1 g1 => ⟨by rw [r1.length]; exact h1.1, fun p hp => ?_⟩⟩
  exact q _ _ _ _ _ h1.2 hp ⟨_, rfl, r1⟩ o1 g1
theorem p_cat {a b : Expr} {ma mb : M} (ha : PE X a (LE W ma)) (hb : PE X b (LE W mb)) : PE X (.BinOp a .Add b pos) (LP W fun ρ st Q => ma ρ st fun x st1 => mb ρ st1 fun y st2 =>
    ∃ xs ys, lstOf st2 x = some xs ∧ lstOf st2 y = some ys ∧ xs.length + ys.length ≤ sizeLine ∧ Q (.lst (xs ++ ys)) st2) := by
  refine (pe_op op_cat ha hb).mono fun σ H Q ⟨B, ρ, st, P, r, h, q⟩ => ?_
  refine ⟨B, ρ, st, _, r, h, fun d1 st1 v1 H1 h1 r1 o1 g1 => ?_⟩
  refine ⟨B, ρ, st1, _, r.step g1 o1, h1, fun d2 st2 v2 H2 ⟨xs, ys, e1, e2, hz, h2⟩ r2 o2 g2 => ?_⟩
  obtain ⟨a1, vs, rfl, l1, w1⟩ := lst_of o2 (r1.grow g2) e1
  obtain ⟨a2, us, rfl, l2, w2⟩ := lst_of o2 r2 e2
  exact ⟨_, _, _, _, rfl, rfl, w1, w2, by rw [l1.length, l2.length]; exact hz, fun p hp => q _ _ _ _ _ h2 hp ⟨_, rfl, l1.app l2⟩ o2 (g1.trans g2)⟩
theorem p_rep {a b : Expr} {ma mb : M} (ha : PE X a (LE W ma)) (hb : PE X b (LE W mb)) : PE X (.BinOp a .Mult b pos) (LP W fun ρ st Q => ma ρ st fun x st1 => mb ρ st1 fun y st2 =>
    ∃ xs j, lstOf st2 x = some xs ∧ y = .int j ∧ 0 < j ∧ j ≤ 100 ∧ xs.length ≤ 1000 ∧ Q (.lst (List.replicate j.toNat xs).flatten) st2) := by
  refine (pe_op op_rep ha hb).mono fun σ H Q ⟨B, ρ, st, P, r, h, q⟩ => ?_
  refine ⟨B, ρ, st, _, r, h, fun d1 st1 v1 H1 h1 r1 o1 g1 => ?_⟩
  refine ⟨B, ρ, st1, _, r.step g1 o1, h1, fun d2 st2 v2 H2 ⟨xs, j, e1, e2, hz, hz2, hz3, h2⟩ r2 o2 g2 => ?_⟩
  subst e2; cases r2
  obtain ⟨a1, vs, rfl, l1, w1⟩ := lst_of o2 (r1.grow g2) e1
  refine ⟨_, _, _, rfl, rfl, w1, by omega, by omega, ?_, fun p hp => q _ _ _ _ _ h2 hp ⟨_, rfl, l1.rep _⟩ o2 (g1.trans g2)⟩
  rw [l1.length, sizeLine_eq]
  have : xs.length * j.toNat ≤ 1000 * 100 := Nat.mul_le_mul hz3 (by omega)
  omega
theorem p_slc {a : Expr} {lo hi : Option Expr} {p2 : Pos} {ma : M} {ml mh : MO} (hK : X.K = W.K) (ha : PE X a (LE W ma)) (hl : PO X lo (LO W ml)) (hh : PO X hi (LO W mh)) :
    PE X (.Subscript a (.Slice lo hi none p2) pos) (LP W fun ρ st Q => ma ρ st fun x st1 => ml ρ st1 fun y st2 => mh ρ st2 fun z st3 => slcL st3 x y z fun r => Q (.lst r) st3) := by
  refine (pe_slice sl_list ha hl hh).mono fun σ H Q ⟨B, ρ, st, P, r, h, q⟩ => ?_
  refine ⟨B, ρ, st, _, r, h, fun d1 st1 v1 H1 h1 r1 o1 g1 => ?_⟩
  refine ⟨B, ρ, st1, _, r.step g1 o1, h1, fun d2 st2 H2 h2 o2 g2 => ?_⟩
  refine ⟨B, ρ, st2, _, r.step (g1.trans g2) o2, h2, fun d3 st3 H3 h3 o3 g3 => ?_⟩
  obtain ⟨xs, e, h3⟩ := h3
  obtain ⟨a1, vs, rfl, l1, w1⟩ := lst_of o3 (r1.grow (g2.trans g3)) e
  exact ⟨_, _, rfl, .of w1, fun p hp => q _ _ _ _ _ h3 hp ⟨_, rfl, l1.cut _ _⟩ o3 (g1.trans (g2.trans g3))⟩
theorem p_rev {a : Expr} {k : Nat} {p1 p2 p3 : Pos} {ma : M} (ha : PE X a (LE W ma)) :
    PE X (.Subscript a (.Slice none none (some (.UnaryOp .USub (.Constant (.int 1) k p1) p2)) p3) pos) (LP W fun ρ st Q => ma ρ st fun x st1 => ∃ xs, lstOf st1 x = some xs ∧ Q (.lst xs.reverse) st1) := by
  refine (pe_revL ha).mono fun σ H Q ⟨B, ρ, st, P, r, h, q⟩ => ?_
  refine ⟨B, ρ, st, _, r, h, fun d1 st1 v1 H1 ⟨xs, e, h1⟩ r1 o1 g1 => ?_⟩
  obtain ⟨a1, vs, rfl, l1, w1⟩ := lst_of o1 r1 e
  exact ⟨_, _, rfl, .of w1, fun p hp => q _ _ _ _ _ h1 hp ⟨_, rfl, l1.rev⟩ o1 g1⟩

/-! ### calls of built-ins -/
theorem _root_.L2.CallR.imp {f : Value} {r r' : List V → Hp → VK → Prop} (h : CallR X f r) (i : ∀ xs H Q, r' xs H Q → r xs H Q) : CallR X f r' := fun pins s σ H xs us Q I rx q => h pins s σ H xs us Q I rx (i _ _ _ q)
/-- what a built-in gives that makes nothing to be told but what stands still -/
def rB (W : Wd) (k : Store → D → (D → Prop) → Prop) : List V → Hp → VK → Prop := fun xs H Q => ∃ B st v d P, xs = [v] ∧ RH W B st H ∧ Rep W B st H v d ∧ k st d P ∧ ∀ d v H', P d → Rep W B st H' v d → Same H H' → Q v H'
def rB2 (W : Wd) (k : Store → D → D → (D → Prop) → Prop) : List V → Hp → VK → Prop := fun xs H Q => ∃ B st v1 v2 d1 d2 P, xs = [v1, v2] ∧ RH W B st H ∧ Rep W B st H v1 d1 ∧ Rep W B st H v2 d2 ∧ k st d1 d2 P ∧ ∀ d v H', P d → Rep W B st H' v d → Same H H' → Q v H'
/-- what gives a new list or dict -/
def rN (W : Wd) (k : Store → D → (Ob → Prop) → Prop) : List V → Hp → VK → Prop := fun xs H Q => ∃ B st v d P, xs = [v] ∧ RH W B st H ∧ Rep W B st H v d ∧ k st d P ∧ ∀ o p u, P o → H p = none → New W B st H p u o → Q (.ref p) (upd H p u)
theorem liftB {ms : M} {k : Store → D → (D → Prop) → Prop} : ∀ σ H Q, LE W (fun ρ st P => ms ρ st fun ds st1 => k st1 ds fun z => P z st1) σ H Q → tCB (rB W k) (tCons (LE W ms) tNil) σ H Q := by
  intro σ H Q ⟨B, ρ, st, P, r, h, q⟩
  exact ⟨B, ρ, st, _, r, h, fun d1 st1 v1 H1 h1 r1 o1 g1 => ⟨B, st1, v1, d1, _, rfl, o1, r1, h1, fun d v H' hp rv s => q d st1 v H' hp rv (o1.same s) (g1.trans (Grow.same s))⟩⟩
theorem liftB2 {ma mb : M} {k : Store → D → D → (D → Prop) → Prop} : ∀ σ H Q, LE W (fun ρ st P => ma ρ st fun x st1 => mb ρ st1 fun y st2 => k st2 x y fun z => P z st2) σ H Q → tCB (rB2 W k) (tCons (LE W ma) (tCons (LE W mb) tNil)) σ H Q := by
  intro σ H Q ⟨B, ρ, st, P, r, h, q⟩
  refine ⟨B, ρ, st, _, r, h, fun d1 st1 v1 H1 h1 r1 o1 g1 => ⟨B, ρ, st1, _, r.step g1 o1, h1, fun d2 st2 v2 H2 h2 r2 o2 g2 => ?_⟩⟩
  exact ⟨B, st2, v1, v2, d1, d2, _, rfl, o2, r1.grow g2, r2, h2, fun d v H' hp rv s => q d st2 v H' hp rv (o2.same s) (g1.trans (g2.trans (Grow.same s)))⟩
theorem liftN {ms : M} {k : Store → D → (Ob → Prop) → Prop} : ∀ σ H Q, LP W (fun ρ st P => ms ρ st fun ds st1 => k st1 ds fun z => P z st1) σ H Q → tCB (rN W k) (tCons (LE W ms) tNil) σ H Q := by
  intro σ H Q ⟨B, ρ, st, P, r, h, q⟩
  exact ⟨B, ρ, st, _, r, h, fun d1 st1 v1 H1 h1 r1 o1 g1 => ⟨B, st1, v1, d1, _, rfl, o1, r1, h1, fun o p u hp hn n => q o st1 H1 p u hp hn n o1 g1⟩⟩
theorem vals_bl {B : Addr → Prop} {st : Store} {H : Hp} : ∀ {vs : List V} {ds : List D} {bs : List Bool}, RepL W B st H vs ds → boolsD ds = some bs → vs = bs.map V.bl
  | _, _, _, .nil, e => by cases e; rfl
  | _, _, _, .cons r t, e => by
    cases r <;> simp [boolsD] at e
    obtain ⟨bs', e1, rfl⟩ := e
    rw [vals_bl t e1]; rfl
theorem vals_int {B : Addr → Prop} {st : Store} {H : Hp} : ∀ {vs : List V} {ds : List D} {bs : List Int}, RepL W B st H vs ds → intsD ds = some bs → vs = bs.map V.int
  | _, _, _, .nil, e => by cases e; rfl
  | _, _, _, .cons r t, e => by
    cases r <;> simp [intsD] at e
    obtain ⟨bs', e1, rfl⟩ := e
    rw [vals_int t e1]; rfl
theorem bi_tuple (hK : X.K = W.K) : CallR X (.type "tuple") (rB W fun st => biR st .tuple) := by
  refine call_tuple_of.imp fun xs H Q ⟨B, st, v, d, P, e0, h, r, ⟨ys, e, hp⟩, q⟩ => ?_
  subst e0
  cases r with
  | tup f l => cases e; exact ⟨_, _, rfl, .inr ⟨by rw [hK]; exact f.sq, q _ _ _ hp (.tup f l) (Same.refl _)⟩⟩
  | lst z f l => cases e; exact ⟨_, _, rfl, .inl ⟨.of f, fun p hn => q _ _ _ hp (Rep.newTup h hn l) (same_upd hn)⟩⟩
  | ro f l => cases e; exact ⟨_, _, rfl, .inl ⟨by rw [hK]; exact f.sq, fun p hn => q _ _ _ hp (Rep.newTup h hn l) (same_upd hn)⟩⟩
  | loc a =>
    obtain ⟨vs, f, l⟩ := h.ob _ _ (seqOf_loc e)
    exact ⟨_, _, rfl, .inl ⟨.of f, fun p hn => q _ _ _ hp (Rep.newTup h hn l) (same_upd hn)⟩⟩
  | _ => cases e
theorem bi_all (hc : X.calm = true) : CallR X (.builtin "all") (rB W fun st => biR st .all) := by
  refine (cr_all hc).imp fun xs H Q ⟨B, st, v, d, P, e0, h, r, ⟨ys, bs, e, e2, hp⟩, q⟩ => ?_
  subst e0
  obtain ⟨a, vs, rfl, l, w⟩ := lst_of h r e
  exact ⟨a, bs, rfl, by rw [← vals_bl l e2]; exact .of w, q _ _ _ hp (.bl _) (Same.refl _)⟩
theorem bi_any (hc : X.calm = true) : CallR X (.builtin "any") (rB W fun st => biR st .any) := by
  refine (cr_any hc).imp fun xs H Q ⟨B, st, v, d, P, e0, h, r, ⟨ys, bs, e, e2, hp⟩, q⟩ => ?_
  subst e0
  obtain ⟨a, vs, rfl, l, w⟩ := lst_of h r e
  exact ⟨a, bs, rfl, by rw [← vals_bl l e2]; exact .of w, q _ _ _ hp (.bl _) (Same.refl _)⟩
theorem bi_sum (hc : X.calm = true) : CallR X (.builtin "sum") (rB W fun st => biR st .sum) := by
  refine (cr_sum hc).imp fun xs H Q ⟨B, st, v, d, P, e0, h, r, ⟨ys, bs, e, e2, hp⟩, q⟩ => ?_
  subst e0
  obtain ⟨a, vs, rfl, l, w⟩ := lst_of h r e
  exact ⟨a, bs, rfl, by rw [← vals_int l e2]; exact .of w, q _ _ _ hp (.int _) (Same.refl _)⟩
theorem bi_int : CallR X (.type "int") (rB W fun st => biR st .int) := by
  refine call_int1.imp fun xs H Q ⟨B, st, v, d, P, e0, h, r, k, q⟩ => ?_
  subst e0
  rcases k with ⟨i, rfl, hp⟩ | ⟨b, rfl, hp⟩
  · cases r; exact .inl ⟨_, rfl, q _ _ _ hp (.int _) (Same.refl _)⟩
  · cases r; exact .inr ⟨_, rfl, q _ _ _ hp (.int _) (Same.refl _)⟩
theorem bi_max2 (hc : X.calm = true) : CallR X (.builtin "max") (rB2 W fun _ => mxR true) := by
  refine (call_max2 hc).imp fun xs H Q ⟨B, st, v, v2, d, d2, P, e0, h, r, r2, ⟨i, j, e1, e2, hp⟩, q⟩ => ?_
  subst e0 e1 e2
  cases r; cases r2
  exact ⟨_, _, rfl, q _ _ _ hp (.int _) (Same.refl _)⟩
theorem bi_min2 (hc : X.calm = true) : CallR X (.builtin "min") (rB2 W fun _ => mxR false) := by
  refine (call_min2 hc).imp fun xs H Q ⟨B, st, v, v2, d, d2, P, e0, h, r, r2, ⟨i, j, e1, e2, hp⟩, q⟩ => ?_
  subst e0 e1 e2
  cases r; cases r2
  exact ⟨_, _, rfl, q _ _ _ hp (.int _) (Same.refl _)⟩
/-- len of a list, a tuple, a text (dicts: elsewhere) -/
theorem bi_len1 (hK : X.K = W.K) : CallR X (.builtin "len") (rB W fun st a k => (∃ xs, seqOf st a = some xs ∧ k (.int xs.length)) ∨ (∃ x, a = .str x ∧ x.length ≤ sizeLine ∧ k (.int x.length))) := by
  refine (call_len_seq.or call_len).imp fun xs H Q ⟨B, st, v, d, P, e0, h, r, k, q⟩ => ?_
  subst e0
  rcases k with ⟨ys, e, hp⟩ | ⟨x, rfl, hx, hp⟩
  · obtain ⟨b, vs, rfl, l, w⟩ := seq_of h r e
    exact .inl ⟨_, vs, rfl, by rw [hK]; exact w, by rw [l.length]; exact q _ _ _ hp (.int _) (Same.refl _)⟩
  · cases r
    exact .inr ⟨_, _, rfl, ⟨hx, rfl⟩, q _ _ _ hp (.int _) (Same.refl _)⟩
/-- list(xs), list(t) (dicts: elsewhere) -/
theorem bi_list1 (hK : X.K = W.K) : CallR X (.type "list") (rN W fun st a k => ∃ xs, seqOf st a = some xs ∧ k (.lst xs)) := by
  refine call_list_of.imp fun xs H Q ⟨B, st, v, d, P, e0, h, r, ⟨ys, e, hp⟩, q⟩ => ?_
  subst e0
  obtain ⟨b, vs, rfl, l, w⟩ := seq_of h r e
  exact ⟨_, vs, rfl, by rw [hK]; exact w, fun p hn => q _ _ _ hp hn ⟨vs, rfl, l⟩⟩
/-! isinstance -/
end
end G
/-! isinstance; what is walked; comprehensions. -/
namespace G
open PySem PySem.Spec PyProof.Rows L2 RZ
section
variable {X : Cx} {W : Wd} {pos : Pos}
/-! ### isinstance -/
def tyName : Ty → String
  | .int => "int" | .bool => "bool" | .str => "str" | .tuple => "tuple" | .list => "list" | .cls _ => ""
def dName : D → String
  | .non => "NoneType" | .bl _ => "bool" | .int _ => "int" | .str _ => "str" | .tup _ => "tuple" | .lst _ => "list" | _ => ""
theorem ty_of {B : Addr → Prop} {st : Store} {H : Hp} {v : V} {d : D} (h : RH W B st H) (r : Rep W B st H v d) {t : Ty} {b : Bool} (e : isTy t (rsv st d) = some b) : TyX W.K H v (.type (dName (rsv st d))) := by
  have no : ∀ a, st a = none → isTy t (.loc a) = some b → False := fun a _ z => by cases t <;> simp [isTy] at z
  cases r with
  | non => exact .base .non
  | bl b => exact .base (.bl b)
  | int i => exact .base (.int i)
  | str x => exact .base (.str x)
  | tup f l =>
    rcases f with ⟨_, f | ⟨o, f⟩⟩ | ⟨o, its, n, f, c, _⟩
    · exact .base (.tup f)
    · exact .fTuple f
    · exact .kTuple f c
  | lst z f l => exact .base (.lst f)
  | dct _ _ _ _ _ => cases t <;> simp [rsv, isTy] at e
  | ins _ _ _ _ => cases t <;> simp [rsv, isTy] at e
  | clo _ => cases t <;> simp [rsv, isTy] at e
  | ro _ _ => cases t <;> simp [rsv, isTy] at e
  | loc a =>
    cases q : st a with
    | none => simp [rsv, q] at e; exact (no a q e).elim
    | some o =>
      cases o with
      | lst xs =>
        obtain ⟨vs, f, l⟩ := h.ob _ _ q
        simp only [rsv, q]
        exact .base (.lst f)
      | dct _ => simp [rsv, q] at e; cases t <;> simp [isTy] at e
      | ins _ _ => simp [rsv, q] at e; cases t <;> simp [isTy] at e
theorem kit_all : ∀ (t : Ty) (d : D) (b : Bool), isTy t d = some b → kitB (dName d) (tyName t) = some b := by
  intro t d b h
  have all : ∀ x ∈ ["NoneType", "bool", "int", "str", "tuple", "list"], ∀ y ∈ ["int", "bool", "str", "tuple", "list"], kitB x y = some (x == y || (x == "bool" && y == "int")) := by decide +kernel
  cases t <;> cases d <;> simp [isTy] at h <;> subst h <;> simp only [dName, tyName] <;> (rw [all _ (by simp) _ (by simp)]; rfl)
/-- isinstance(x, T) -/
theorem s_isi1 {a : Expr} {ma : M} {t : Ty} {p1 p2 : Pos} {x : Str} (hK : X.K = W.K) (hg : Gl X "isinstance") (hm : X.mg "isinstance" = none) (ht : Gl X x) (htm : X.mg x = none) (htv : bootBuiltins x = some (.type (tyName t))) (hn : x ≠ "__name__") (hd : (x == ("__debug__" : Str)) = false)
    (ha : PE X a (LE W ma)) (hs : starEach [a, .Name x p2] X.env = (false, eval a X.env) :: starEach [.Name x p2] X.env) :
    PE X (.Call (.Name "isinstance" p1) [a, .Name x p2] [] pos) (LE W fun ρ st Q => ma ρ st fun y st1 => match isTys [t] (rsv st1 y) with | some b => Q (.bl b) st1 | none => False) := by
  refine (pe_callB call_isi hg hm boot_isinstance (pa_cons ha (pa_cons (pe_bltn (v := .ty (tyName t)) ht htm htv rfl hn hd) pa_nil) hs) (he := hs)).mono fun σ H Q ⟨B, ρ, st, P, r, h, q⟩ => ?_
  refine ⟨B, ρ, st, _, r, h, fun d1 st1 v1 H1 h1 r1 o1 g1 => ?_⟩
  split at h1
  · rename_i b e
    simp only [isTys] at e
    split at e
    · rename_i c d e1 e2
      cases e2
      rw [Bool.or_false] at e; cases e
      exact ⟨_, _, _, _, b, rfl, .ty _, by rw [hK]; exact ty_of o1 r1 e1, kit_ty (kit_all t _ _ e1), q _ _ _ _ h1 (.bl _) o1 g1⟩
    · cases e
  · exact h1.elim
/-- isinstance(x, (T, U)) -/
theorem s_isi2 {a : Expr} {ma : M} {t u : Ty} {p1 p2 p3 p4 : Pos} {kk : Nat} {x y : Str} (hK : X.K = W.K) (hg : Gl X "isinstance") (hm : X.mg "isinstance" = none)
    (ht : Gl X x) (htm : X.mg x = none) (htv : bootBuiltins x = some (.type (tyName t))) (hn : x ≠ "__name__") (hd : (x == ("__debug__" : Str)) = false)
    (hu : Gl X y) (hum : X.mg y = none) (huv : bootBuiltins y = some (.type (tyName u))) (hn' : y ≠ "__name__") (hd' : (y == ("__debug__" : Str)) = false)
    (ha : PE X a (LE W ma)) (hs : starEach [a, .Tuple [.Name x p2, .Name y p3] kk p4] X.env = (false, eval a X.env) :: starEach [.Tuple [.Name x p2, .Name y p3] kk p4] X.env) :
    PE X (.Call (.Name "isinstance" p1) [a, .Tuple [.Name x p2, .Name y p3] kk p4] [] pos) (LE W fun ρ st Q => ma ρ st fun y st1 => match isTys [t, u] (rsv st1 y) with | some b => Q (.bl b) st1 | none => False) := by
  refine (pe_callB call_isiT hg hm boot_isinstance (pa_cons ha (pa_cons (pe_tup (pa_cons (pe_bltn (v := .ty (tyName t)) ht htm htv rfl hn hd) (pa_cons (pe_bltn (v := .ty (tyName u)) hu hum huv rfl hn' hd') pa_nil))) pa_nil) hs) (he := hs)).mono fun σ H Q ⟨B, ρ, st, P, r, h, q⟩ => ?_
  refine ⟨B, ρ, st, _, r, h, fun d1 st1 v1 H1 h1 r1 o1 g1 => ⟨by show 2 ≤ sizeLine; decide, fun p hp => ?_⟩⟩
  split at h1
  · rename_i b e
    have hsame := same_upd (u := .tup [.ty (tyName t), .ty (tyName u)]) hp
    simp only [isTys] at e
    split at e
    · rename_i c d e1 e2
      split at e2
      · rename_i c2 d2 e3 e4
        cases e4; rw [Bool.or_false] at e2; cases e2; cases e
        have q' := q _ _ _ _ h1 (.bl _) (o1.same hsame) (g1.trans (Grow.same hsame))
        have ty := ty_of (o1.same hsame) (r1.grow (Grow.same hsame)) e1
        refine ⟨_, p, _, _, _, _, rfl, upd_same, .cons (.ty _) (.cons (.ty _) .nil), by rw [hK]; exact ty, ?_, q'⟩
        refine kitAny_cons (kit_ty (kit_all t _ _ e1)) (fun z => ?_) (fun z => by rw [z]; rfl)
        subst z
        refine kitAny_cons (kit_ty (kit_all u _ _ e3)) (fun z => ?_) (fun z => by rw [z]; rfl)
        subst z
        exact kitAny_nil
      · cases e2
    · cases e
  · exact h1.elim

/-! ### what is walked -/
/-- a walk of the items ds, whatever grows -/
def Wk (W : Wd) (B : Addr → Prop) (J : L2.It) (st : Store) (H : Hp) (ds : List D) : Prop :=
  ∀ B' st' H', (∀ a, B' a → B a ∨ H a = none) → Gro B' st H st' H' → RH W B' st' H' → (∀ i, i < ds.length → J.go i H') ∧ J.stop ds.length H' ∧
    ∀ i d x H'', ds[i]? = some d → J.yld i H' x H'' → Rep W B' st' H'' x d ∧ Same H' H''
def LI (W : Wd) (m : MA) : TI := fun σ H Q => ∃ B ρ st P, R W B ρ st σ H ∧ m ρ st P ∧
  ∀ ds st' J H', P ds st' → Wk W B J st' H' ds → RH W B st' H' → Grow st H st' H' → Q J H'
theorem _root_.L2.PI.mono {tg e : Expr} {t t' : TI} (h : PI X tg e t) (i : ∀ σ H Q, t' σ H Q → t σ H Q) : PI X tg e t' := ⟨fun pins s σ H Q I w => h.run pins s σ H Q I (i σ H Q w)⟩
theorem _root_.L2.PI.to {tg e : Expr} {m m' : MA} (h : PI X tg e (LI W m)) (i : m' = m) : PI X tg e (LI W m') := by rw [i]; exact h
theorem FrT.re {B B' : Addr → Prop} {K : PySem.W.Frag} {st : Store} {H : Hp} {a : Addr} {xs : List V} (l : ∀ a, B' a → B a ∨ H a = none) (h : FrT K B st H a xs) : FrT K B' st H a xs :=
  h.imp (fun z => ⟨z.2.elim (fun w => z.1.re l w) (fun ⟨o, w⟩ => z.1.re l w), z.2⟩) id
theorem wk_list {B : Addr → Prop} {st : Store} {H : Hp} {a : Addr} {vs : List V} {ds : List D} (s : Still B st a) (h : H a = some (.lst vs)) (l : RepL W B st H vs ds) : Wk W B (Itl W.K a) st H ds := by
  intro B' st' H' lb g o
  obtain ⟨s', h'⟩ := (s.re lb h).grow g h
  have l' := (l.re lb).gro g
  refine ⟨fun i hi => ?_, ⟨vs, .of h', Nat.le_of_eq l.length⟩, fun i d x H'' hd y => ?_⟩
  · obtain ⟨v, e, _⟩ := l'.get i ds[i] (by simp [hi])
    exact ⟨vs, v, .of h', e⟩
  · obtain ⟨rfl, y⟩ := y
    obtain ⟨v, e, rv⟩ := l'.get i d hd
    rw [y vs (.of h')] at e
    cases e
    exact ⟨rv, Same.refl _⟩
theorem wk_tup {B : Addr → Prop} {st : Store} {H : Hp} {a : Addr} {vs : List V} {ds : List D} (f : FrT W.K B st H a vs) (l : RepL W B st H vs ds) : Wk W B (Itt W.K a) st H ds := by
  intro B' st' H' lb g o
  have f' := (f.re lb).grow g
  have l' := (l.re lb).gro g
  refine ⟨fun i hi => ?_, ⟨vs, f'.sq, Nat.le_of_eq l.length⟩, fun i d x H'' hd y => ?_⟩
  · obtain ⟨v, e, _⟩ := l'.get i ds[i] (by simp [hi])
    exact ⟨vs, v, f'.sq, e⟩
  · obtain ⟨rfl, y⟩ := y
    obtain ⟨v, e, rv⟩ := l'.get i d hd
    rw [y vs f'.sq] at e
    cases e
    exact ⟨rv, Same.refl _⟩
theorem wk_range {B : Addr → Prop} {st : Store} {H : Hp} (lo : Int) (n : Nat) : Wk W B (Itr lo n) st H (rangeL lo n) := by
  intro B' st' H' lb g o
  refine ⟨fun i hi => by simp only [rangeL, List.length_map, List.length_range] at hi; exact hi, by simp [rangeL, Itr], fun i d x H'' hd y => ?_⟩
  obtain ⟨rfl, y⟩ := y
  subst y
  simp only [rangeL, List.getElem?_map, Option.map_eq_some_iff] at hd
  obtain ⟨j, hj, rfl⟩ := hd
  rw [List.getElem?_range (by
    rcases Nat.lt_or_ge i n with z | z
    · exact z
    · rw [List.getElem?_eq_none (by simpa using z)] at hj; cases hj)] at hj
  cases hj
  exact ⟨.int _, Same.refl _⟩
theorem wk_str {B : Addr → Prop} {st : Store} {H : Hp} (z : Str) : Wk W B (Its z) st H (z.cps.toList.map fun c => .str ⟨#[c]⟩) := by
  intro B' st' H' lb g o
  refine ⟨fun i hi => by simp only [List.length_map, Array.length_toList] at hi; exact hi, by simp [Its], fun i d x H'' hd y => ?_⟩
  obtain ⟨rfl, c, hc, rfl⟩ := y
  simp only [List.getElem?_map, Option.map_eq_some_iff] at hd
  obtain ⟨j, hj, rfl⟩ := hd
  rw [Array.getElem?_toList, hc] at hj
  cases hj
  exact ⟨.str _, Same.refl _⟩
/-- what iter(..) takes, by values -/
def iVal (te : TE) (r : V → Hp → (L2.It → Hp → Prop) → Prop) : TI := fun σ H R => te σ H fun v H1 => r v H1 R
/-- for x in e, e a tuple or a list -/
theorem pi_any {tg e : Expr} {te : TE} (he : PE X e te) : PI X tg e (iVal te fun v H R => (∃ a xs, v = .ref a ∧ SqL X.K H a xs ∧ R (Itl X.K a) H) ∨ (∃ a xs, v = .ref a ∧ SqT X.K H a xs ∧ R (Itt X.K a) H) ∨ ∃ x, v = .str x ∧ R (Its x) H) := by
  refine ⟨fun pins s σ H R I h => ?_⟩
  refine thn (he.run pins s σ H _ I h) fun v s1 ⟨y, H1, I1, r1, q⟩ => ?_
  rcases q with ⟨a, xs, e, hq, q⟩ | ⟨a, xs, e, hq, q⟩ | ⟨x, e, q⟩
  · subst e
    cases r1
    obtain ⟨its, rv, p, hz⟩ := I1.list hq
    refine wpAny_pyIter_list p.isList ?_
    refine ⟨s1.heap.objs.size, [s1.heap.objs.size], _, _, H1, rfl, I1.kept (t' := s1.toks) fun b o e => Heap.get?_push_of_some _ e, turn_list a _, ⟨_, Heap.get?_push_size _ rfl, rfl, rfl⟩, fun b hb => ?_, q⟩
    have e : b = s1.heap.objs.size := by simpa using hb
    subst e
    exact I1.fpOk (Nat.le_refl _) (I1.hok.fresh (Nat.le_refl _))
  · subst e
    cases r1
    obtain ⟨its, rv, p, hz⟩ := I1.tuple hq
    refine wpAny_pyIter_tuple (show s1.heap.IsTuple a its.toArray from p) ?_
    refine ⟨s1.heap.objs.size, [s1.heap.objs.size], _, _, H1, rfl, I1.kept (t' := s1.toks) fun b o e => Heap.get?_push_of_some _ e, turn_tuple a _, ⟨_, Heap.get?_push_size _ rfl, rfl, rfl⟩, fun b hb => ?_, q⟩
    have e : b = s1.heap.objs.size := by simpa using hb
    subst e
    exact I1.fpOk (Nat.le_refl _) (I1.hok.fresh (Nat.le_refl _))
  · subst e
    obtain ⟨t, rfl⟩ := r1
    cases ha : x.cps.all (· < 128)
    · exact wpAny_pyIter_wide ha (pi_one (tk := s1.toks) I1 _ (turn_str _ x t "str_iterator" (.inr rfl)) ⟨_, Heap.get?_push_size _ rfl, rfl, rfl⟩ q)
    · exact wpAny_pyIter_ascii ha (pi_one (tk := s1.toks) I1 _ (turn_str _ x t "str_ascii_iterator" (.inl rfl)) ⟨_, Heap.get?_push_size _ rfl, rfl, rfl⟩ q)
theorem i_of {tg e : Expr} {m : M} (hK : X.K = W.K) (he : PE X e (LE W m)) : PI X tg e (LI W fun ρ st Q => m ρ st fun d st1 => match items1 d with | some xs => Q xs st1 | none => False) := by
  refine (pi_any he).mono fun σ H Q ⟨B, ρ, st, P, r, h, q⟩ => ?_
  refine ⟨B, ρ, st, _, r, h, fun d1 st1 v1 H1 h1 r1 o1 g1 => ?_⟩
  split at h1
  · rename_i xs e
    cases r1 with
    | tup f l => cases e; exact .inr (.inl ⟨_, _, rfl, by rw [hK]; exact f.sq, by rw [hK]; exact q _ _ _ _ h1 (wk_tup f l) o1 g1⟩)
    | lst z f l => cases e; exact .inl ⟨_, _, rfl, .of f, by rw [hK]; exact q _ _ _ _ h1 (wk_list z f l) o1 g1⟩
    | str x => cases e; exact .inr (.inr ⟨_, rfl, q _ _ _ _ h1 (wk_str x) o1 g1⟩)
    | _ => cases e
  · exact h1.elim
theorem i_range1 {tg a : Expr} {p : Pos} {m : M} (hg : Gl X "range") (hm : X.mg "range" = none) (ha : PE X a (LE W m)) (hs : starEach [a] X.env = [(false, eval a X.env)]) :
    PI X tg (.Call (.Name "range" p) [a] [] pos) (LI W fun ρ st Q => m ρ st fun d st1 => ∃ n, d = .int n ∧ (-(2 ^ 62) ≤ n ∧ n < 2 ^ 62) ∧ Q (rangeL 0 n.toNat) st1) := by
  refine (pi_range1 hg hm (pa_cons ha pa_nil hs) hs).mono fun σ H Q ⟨B, ρ, st, P, r, h, q⟩ => ?_
  refine ⟨B, ρ, st, _, r, h, fun d1 st1 v1 H1 ⟨n, e, hn, h1⟩ r1 o1 g1 => ?_⟩
  subst e; cases r1
  exact ⟨n, rfl, hn.1, hn.2, q _ _ _ _ h1 (wk_range 0 _) o1 g1⟩
theorem i_range2 {tg a b : Expr} {p : Pos} {m m' : M} (hg : Gl X "range") (hm : X.mg "range" = none) (ha : PE X a (LE W m)) (hb : PE X b (LE W m')) (hs : starEach [a, b] X.env = [(false, eval a X.env), (false, eval b X.env)]) (hs2 : starEach [b] X.env = [(false, eval b X.env)]) :
    PI X tg (.Call (.Name "range" p) [a, b] [] pos) (LI W fun ρ st Q => m ρ st fun d st1 => m' ρ st1 fun d' st2 => ∃ lo hi, d = .int lo ∧ d' = .int hi ∧ (-(2 ^ 62) ≤ lo ∧ lo < 2 ^ 62 ∧ -(2 ^ 62) ≤ hi ∧ hi < 2 ^ 62) ∧ Q (rangeL lo (hi - lo).toNat) st2) := by
  refine (pi_range2 hg hm (pa_cons ha (pa_cons hb pa_nil hs2) (by rw [hs, hs2])) hs hs2).mono fun σ H Q ⟨B, ρ, st, P, r, h, q⟩ => ?_
  refine ⟨B, ρ, st, _, r, h, fun d1 st1 v1 H1 h1 r1 o1 g1 => ⟨B, ρ, st1, _, r.step g1 o1, h1, fun d2 st2 v2 H2 ⟨lo, hi, e1, e2, hn, h2⟩ r2 o2 g2 => ?_⟩⟩
  subst e1 e2; cases r1; cases r2
  exact ⟨lo, hi, rfl, hn, q _ _ _ _ h2 (wk_range lo _) o2 (g1.trans g2)⟩
/-! zip -/
theorem zipD_get : ∀ {xs ys : List D} {i : Nat} {d : D}, (zipD xs ys)[i]? = some d → ∃ x y, xs[i]? = some x ∧ ys[i]? = some y ∧ d = .tup [x, y]
  | [], _, i, d, h => by simp [zipD] at h
  | _ :: _, [], i, d, h => by simp [zipD] at h
  | x :: xs, y :: ys, 0, d, h => by simp [zipD] at h; exact ⟨x, y, rfl, rfl, h.symm⟩
  | x :: xs, y :: ys, i + 1, d, h => by
    obtain ⟨a, b, h1, h2, h3⟩ := zipD_get (xs := xs) (ys := ys) (i := i) (d := d) (by simpa [zipD] using h)
    exact ⟨a, b, by simpa using h1, by simpa using h2, h3⟩
theorem zipD_len : ∀ (xs ys : List D), (zipD xs ys).length = min xs.length ys.length
  | [], _ => by simp [zipD]
  | _ :: _, [] => by simp [zipD]
  | _ :: xs, _ :: ys => by simp [zipD, zipD_len xs ys]
theorem pair_rep {B : Addr → Prop} {st : Store} {H : Hp} {T : Addr} {x y : V} {dx dy : D} (o : RH W B st H) (n : H T = none) (rx : Rep W B st H x dx) (ry : Rep W B st H y dy) : Rep W B st (upd H T (.tup [x, y])) (.ref T) (.tup [dx, dy]) ∧ Same H (upd H T (.tup [x, y])) :=
  ⟨Rep.newTup o n (.cons rx (.cons ry .nil)), same_upd n⟩
theorem wk_zipL {B : Addr → Prop} {st : Store} {H : Hp} {a b : Addr} {vs us : List V} {ds es : List D} (s : Still B st a) (h : H a = some (.lst vs)) (l : RepL W B st H vs ds) (s2 : Still B st b) (h2 : H b = some (.lst us)) (l2 : RepL W B st H us es) : Wk W B (Itz W.K a b) st H (zipD ds es) := by
  intro B' st' H' lb g o
  obtain ⟨s', h'⟩ := (s.re lb h).grow g h
  obtain ⟨s2', h2'⟩ := (s2.re lb h2).grow g h2
  have l' := (l.re lb).gro g
  have l2' := (l2.re lb).gro g
  refine ⟨fun i hi => ?_, ⟨vs, us, .of h', .of h2', ?_⟩, fun i d x H'' hd y => ?_⟩
  · rw [zipD_len] at hi
    obtain ⟨v, e, _⟩ := l'.get i (ds[i]'(by omega)) (by simp [show i < ds.length by omega])
    obtain ⟨u, e2, _⟩ := l2'.get i (es[i]'(by omega)) (by simp [show i < es.length by omega])
    exact ⟨vs, us, v, u, .of h', .of h2', e, e2⟩
  · rw [zipD_len, l.length, l2.length]
    omega
  · obtain ⟨T, u, w, rfl, n, rfl, y1, y2⟩ := y
    obtain ⟨dx, dy, e1, e2, rfl⟩ := zipD_get hd
    obtain ⟨v, f1, rv⟩ := l'.get i dx e1
    obtain ⟨v2, f2, rv2⟩ := l2'.get i dy e2
    rw [y1 vs (.of h')] at f1; rw [y2 us (.of h2')] at f2
    cases f1; cases f2
    exact pair_rep o n rv rv2
theorem wk_zipT {B : Addr → Prop} {st : Store} {H : Hp} {a b : Addr} {vs us : List V} {ds es : List D} (f : FrT W.K B st H a vs) (l : RepL W B st H vs ds) (f2 : FrT W.K B st H b us) (l2 : RepL W B st H us es) : Wk W B (ItzT W.K a b) st H (zipD ds es) := by
  intro B' st' H' lb g o
  have h' := ((f.re lb).grow g).sq
  have h2' := ((f2.re lb).grow g).sq
  have l' := (l.re lb).gro g
  have l2' := (l2.re lb).gro g
  refine ⟨fun i hi => ?_, ⟨vs, us, h', h2', ?_⟩, fun i d x H'' hd y => ?_⟩
  · rw [zipD_len] at hi
    obtain ⟨v, e, _⟩ := l'.get i (ds[i]'(by omega)) (by simp [show i < ds.length by omega])
    obtain ⟨u, e2, _⟩ := l2'.get i (es[i]'(by omega)) (by simp [show i < es.length by omega])
    exact ⟨vs, us, v, u, h', h2', e, e2⟩
  · rw [zipD_len, l.length, l2.length]
    omega
  · obtain ⟨T, u, w, rfl, n, rfl, y1, y2⟩ := y
    obtain ⟨dx, dy, e1, e2, rfl⟩ := zipD_get hd
    obtain ⟨v, q1, rv⟩ := l'.get i dx e1
    obtain ⟨v2, q2, rv2⟩ := l2'.get i dy e2
    rw [y1 vs h'] at q1; rw [y2 us h2'] at q2
    cases q1; cases q2
    exact pair_rep o n rv rv2
theorem i_zip {a b : Expr} {p tpos : Pos} {elts : List Expr} {kk : Nat} {m m' : M} (hK : X.K = W.K) (hg : Gl X "zip") (hm : X.mg "zip" = none) (ha : PE X a (LE W m)) (hb : PE X b (LE W m')) (hs : starEach [a, b] X.env = (false, eval a X.env) :: starEach [b] X.env) (hs2 : starEach [b] X.env = [(false, eval b X.env)]) :
    PI X (.Tuple elts kk tpos) (.Call (.Name "zip" p) [a, b] [] pos) (LI W fun ρ st Q => m ρ st fun x st1 => m' ρ st1 fun y st2 => ((∃ xs ys, x = .lst xs ∧ y = .lst ys ∧ Q (zipD xs ys) st2) ∨ ∃ xs ys, x = .tup xs ∧ y = .tup ys ∧ Q (zipD xs ys) st2)) := by
  refine (pi_zipA hg hm (pa_cons ha (pa_cons hb pa_nil hs2) hs) hs (by rw [hs2]; rfl)).mono fun σ H Q ⟨B, ρ, st, P, r, h, q⟩ => ?_
  refine ⟨B, ρ, st, _, r, h, fun d1 st1 v1 H1 h1 r1 o1 g1 => ⟨B, ρ, st1, _, r.step g1 o1, h1, fun d2 st2 v2 H2 h2 r2 o2 g2 => ?_⟩⟩
  have r1 := r1.grow g2
  rcases h2 with ⟨xs, ys, rfl, rfl, h2⟩ | ⟨xs, ys, rfl, rfl, h2⟩
  · cases r1 with
    | lst z f l =>
      cases r2 with
      | lst z2 f2 l2 =>
        exact ⟨_, _, _, _, rfl, .inl ⟨.of f, .of f2, by rw [hK]; exact q _ _ _ _ h2 (wk_zipL z f l z2 f2 l2) o2 (g1.trans g2)⟩⟩
  · cases r1 with
    | tup f l =>
      cases r2 with
      | tup f2 l2 =>
        exact ⟨_, _, _, _, rfl, .inr ⟨by rw [hK]; exact f.sq, by rw [hK]; exact f2.sq, by rw [hK]; exact q _ _ _ _ h2 (wk_zipT f l f2 l2) o2 (g1.trans g2)⟩⟩
end
end G
/-! Targets; comprehensions. -/
namespace G
open PySem PySem.Spec PyProof.Rows L2
mutual
def Pt.slots : Pt → List Nat
  | .var i => [i]
  | .tup ps => ps.slots
def Pts.slots : Pts → List Nat
  | .nil => []
  | .cons p ps => p.slots ++ ps.slots
end
def LG (W : Wd) (p : Pt) : TG := fun v σ H Q => ∃ B ρ st d P, R W B ρ st σ H ∧ Rep W B st H v d ∧ asg p d ρ P ∧
  ∀ ρ' σ', P ρ' → R W B ρ' st σ' H → (∀ vs : List Nat, (∀ i ∈ p.slots, i ∈ vs) → wipe σ' vs = wipe σ vs) → Q σ' H
def LGs (W : Wd) (ps : Pts) : TGs := fun vs σ H Q => ∃ B ρ st ds P, R W B ρ st σ H ∧ RepL W B st H vs ds ∧ asgs ps ds ρ P ∧
  ∀ ρ' σ', P ρ' → R W B ρ' st σ' H → (∀ vs : List Nat, (∀ i ∈ ps.slots, i ∈ vs) → wipe σ' vs = wipe σ vs) → Q σ' H
theorem _root_.L2.PG.mono {X : Cx} {tg : Expr} {t t' : TG} (h : PG X tg t) (i : ∀ v σ H Q, t' v σ H Q → t v σ H Q) : PG X tg t' := ⟨fun pins s σ H v u Q I r w => h.run pins s σ H v u Q I r (i v σ H Q w)⟩
theorem _root_.L2.PGs.mono {X : Cx} {tg : List Expr} {t t' : TGs} (h : PGs X tg t) (i : ∀ v σ H Q, t' v σ H Q → t v σ H Q) : PGs X tg t' := ⟨fun pins s σ H v u Q I r w => h.run pins s σ H v u Q I r (i v σ H Q w)⟩
theorem wipe_get (σ : L2.St) : ∀ (vs : List Nat) (i : Nat), i ∈ vs → i < σ.length → (wipe σ vs)[i]? = some none
  | [], i, h, _ => by simp at h
  | v :: vs, i, h, hl => by
    unfold wipe
    by_cases e : v = i
    · subst e
      rw [List.getElem?_set_self (by rw [wipe_length]; exact hl)]
    · rw [List.getElem?_set_ne e]
      exact wipe_get σ vs i ((List.mem_cons.mp h).resolve_left fun z => e z.symm) hl
theorem wipe_out (σ : L2.St) : ∀ (vs : List Nat) (i : Nat), i ∉ vs → (wipe σ vs)[i]? = σ[i]?
  | [], i, h => rfl
  | v :: vs, i, h => by
    unfold wipe
    rw [List.getElem?_set_ne fun e => h (by rw [e]; exact List.mem_cons_self)]
    exact wipe_out σ vs i fun z => h (List.mem_cons_of_mem _ z)
theorem wipe_set {σ : L2.St} {i : Nat} {x : Option V} {vs : List Nat} (h : i ∈ vs) : wipe (σ.set i x) vs = wipe σ vs := by
  apply List.ext_getElem?
  intro j
  by_cases hj : j ∈ vs
  · by_cases hl : j < σ.length
    · rw [wipe_get _ vs j hj (by simpa using hl), wipe_get _ vs j hj hl]
    · rw [List.getElem?_eq_none (by rw [wipe_length]; simpa using hl), List.getElem?_eq_none (by rw [wipe_length]; simpa using hl)]
  · rw [wipe_out _ vs j hj, wipe_out _ vs j hj, List.getElem?_set_ne fun e => hj (by rw [← e]; exact h)]
section
variable {X : Cx} {W : Wd} {pos : Pos}
theorem g_var {i : Nat} {x : Str} (hN : X.N.Nodup) (hi : X.N[i]? = some x) (hx : Loc X.env.scope x) (hf : X.fn x = true ∨ X.env.scope.names.lookup x = some .local) : PG X (.Name x pos) (LG W (.var i)) := by
  refine (pg_name hN hi hx hf).mono fun v σ H Q ⟨B, ρ, st, d, P, r, rv, h, q⟩ => ?_
  exact q _ _ h (r.set i rv) fun vs hv => wipe_set (hv i (by simp [Pt.slots]))
theorem g_nil : PGs X [] (LGs W .nil) := by
  refine pgs_nil.mono fun vs σ H Q ⟨B, ρ, st, ds, P, r, rv, h, q⟩ => ?_
  cases rv with
  | nil => exact ⟨rfl, q ρ σ h r fun _ _ => rfl⟩
  | cons _ _ => exact h.elim
theorem g_cons {e : Expr} {es : List Expr} {p : Pt} {ps : Pts} (h1 : PG X e (LG W p)) (h2 : PGs X es (LGs W ps)) (hs : (assignEach (e :: es) X.env).map (·.2) = assign e X.env :: (assignEach es X.env).map (·.2)) : PGs X (e :: es) (LGs W (.cons p ps)) := by
  refine (pgs_cons h1 h2 hs).mono fun vs σ H Q ⟨B, ρ, st, ds, P, r, rv, h, q⟩ => ?_
  cases rv with
  | nil => exact h.elim
  | cons r1 rs =>
    refine ⟨_, _, rfl, B, ρ, st, _, _, r, r1, h, fun ρ1 σ1 hp r' hw => ?_⟩
    refine ⟨B, ρ1, st, _, P, r', rs, hp, fun ρ2 σ2 hp2 r2 hw2 => q _ _ hp2 r2 fun vs hv => ?_⟩
    rw [hw2 vs fun i hi => hv i (by simp [Pts.slots, hi]), hw vs fun i hi => hv i (by simp [Pts.slots, hi])]
theorem g_tup {es : List Expr} {k : Nat} {ps : Pts} (hK : X.K = W.K) (hc : X.calm = true) (h : PGs X es (LGs W ps)) (hl : ∀ ds ρ P, asgs ps ds ρ P → ds.length = es.length)
    (hn : (assignEach es X.env).length = es.length) (hst : (assignEach es X.env).findIdx? (·.1) = none) : PG X (.Tuple es k pos) (LG W (.tup ps)) := by
  refine (pg_tup hc h hn hst).mono fun v σ H Q ⟨B, ρ, st, d, P, r, rv, h, q⟩ => ?_
  unfold asg at h
  split at h
  · cases rv with
    | tup f l =>
      refine ⟨_, _, rfl, by rw [hK]; exact f.sq, by rw [l.length]; exact hl _ _ _ h, B, ρ, st, _, P, r, l, h, fun ρ' σ' hp r' hw => q _ _ hp r' fun vs hv => hw vs fun i hi => hv i (by simpa [Pt.slots] using hi)⟩
  · exact h.elim
mutual
theorem asg_ex : ∀ (p : Pt) (d : D) (ρ : Env) (P : Env → Prop), asg p d ρ P → ∃ ρ', P ρ'
  | .var i, d, ρ, P, h => ⟨_, h⟩
  | .tup ps, d, ρ, P, h => by
    unfold asg at h
    split at h
    · exact asgs_ex ps _ ρ P h
    · exact h.elim
theorem asgs_ex : ∀ (p : Pts) (d : List D) (ρ : Env) (P : Env → Prop), asgs p d ρ P → ∃ ρ', P ρ'
  | .nil, [], ρ, P, h => ⟨_, h⟩
  | .nil, _ :: _, _, _, h => h.elim
  | .cons _ _, [], _, _, h => h.elim
  | .cons p ps, d :: ds, ρ, P, h => by
    obtain ⟨ρ1, h1⟩ := asg_ex p d ρ _ h
    exact asgs_ex ps ds ρ1 P h1
end
def Pts.len : Pts → Nat
  | .nil => 0
  | .cons _ ps => ps.len + 1
theorem asgs_len : ∀ (ps : Pts) (ds : List D) (ρ : Env) (P : Env → Prop), asgs ps ds ρ P → ds.length = ps.len
  | .nil, [], _, _, _ => rfl
  | .nil, _ :: _, _, _, h => h.elim
  | .cons _ _, [], _, _, h => h.elim
  | .cons p ps, d :: ds, ρ, P, h => by
    obtain ⟨ρ1, h1⟩ := asg_ex p d ρ _ h
    show ds.length + 1 = ps.len + 1
    rw [asgs_len ps ds ρ1 P h1]

/-! ### comprehensions -/
theorem _root_.L2.PTs.mono {ifs : List Expr} {t t' : TT} (h : PTs X ifs t) (i : ∀ σ H Q, t' σ H Q → t σ H Q) : PTs X ifs t' := ⟨fun pins s σ H Q I w => h.run pins s σ H Q I (i σ H Q w)⟩
theorem _root_.L2.PTs.to {ifs : List Expr} {m m' : M} (h : PTs X ifs (LT W m)) (i : m' = m) : PTs X ifs (LT W m') := by rw [i]; exact h
theorem ts_nil : PTs X [] (LT W fun _ st Q => Q (.bl true) st) := by
  refine pts_nil.mono fun σ H Q ⟨B, ρ, st, P, r, k, q⟩ => ?_
  obtain ⟨b, e, z⟩ := q _ _ _ k r.ob (Grow.refl _ _)
  cases e; exact z
theorem ts_one {c : Expr} {m : M} (h : PT X c (LT W m)) : PTs X [c] (LT W m) := pts_one h
/-- one turn of a comprehension -/
def turn (p : Pt) (own : List Nat) (mt me : M) (ρ : Env) : D → Store → (Option D → Store → Prop) → Prop := fun d st k =>
  asg p d (wipeE ρ own) fun ρ1 => mt ρ1 st fun t st1 => ∃ b, t = .bl b ∧ (if b = true then me ρ1 st1 fun x st2 => k (some x) st2 else k none st1)
theorem comp_lift {own : List Nat} {mi : MA} {mt me : M} {p : Pt} (hp : ∀ i ∈ p.slots, i ∈ own) : ∀ (σ : L2.St) (H : Hp) (Q : VK),
    LP W (fun ρ st Q => mi ρ st fun ds st1 => turns (turn p own mt me ρ) ds st1 [] fun xs st2 => Q (.lst xs) st2) σ H Q → tLc (LI W mi) (LG W p) (LT W mt) (LE W me) own σ H Q := by
  intro σ H Q ⟨B, ρ, st, P, r, h, q⟩
  refine ⟨B, ρ, st, _, r, h, fun ds st1 J H1 h1 wk o1 g1 => ?_⟩
  intro D hD
  have nBD : ¬ B D := (o1.free hD).2
  have lB : ∀ a, Hide B D a → B a ∨ H1 a = none := fun a z => z.elim .inl fun e => .inr (by rw [e]; exact hD)
  have oH : RH W (Hide B D) st1 (upd H1 D (.lst [])) := o1.hideNew hD
  have r1 : R W (Hide B D) ρ st1 σ (upd H1 D (.lst [])) := ⟨r.len, fun i d e => by
    obtain ⟨v, e1, e2⟩ := r.var i d e
    exact ⟨v, e1, ((e2.grow g1).re lB).grow (Grow.same (same_upd hD))⟩, oH⟩
  have gD : Gro (Hide B D) st1 H1 st1 (upd H1 D (.lst [])) := (Grow.same (same_upd hD)).b
  refine ⟨fun i m H2 => i ≤ ds.length ∧ m = ds.length - i ∧ ∃ (st2 : Store) (acc : List G.D) (vs : List V), H2 D = some (.lst vs) ∧ RepL W (Hide B D) st2 H2 vs acc ∧ RH W (Hide B D) st2 H2 ∧
      (∀ a o, st1 a = none → a ≠ D → H1 a = some o → st2 a = none ∧ H2 a = some o) ∧ turns (turn p own mt me ρ) (ds.drop i) st2 acc fun xs st2 => P (.lst xs) st2, ⟨ds.length, Nat.zero_le _, rfl, st1, [], [], upd_same, .nil, oH, fun a o e1 e2 e3 => ⟨e1, by rw [upd_ne e2]; exact e3⟩, h1⟩, ?_⟩
  rintro i m H2 ⟨hi, rfl, st2, acc, vs, hd, l, o2, g2, hT⟩
  have gH : Gro (Hide B D) st1 H1 st2 H2 := fun a o e1 e2 e3 => g2 a o e1 (fun z => e2 (.inr z)) e3
  have gH' : Gro (Hide B D) st1 (upd H1 D (.lst [])) st2 H2 := fun a o e1 e2 e3 => by
    have ne : a ≠ D := fun z => e2 (.inr z)
    rw [upd_ne ne] at e3
    exact g2 a o e1 ne e3
  obtain ⟨wg, ws, wy⟩ := wk (Hide B D) st2 H2 lB gH o2
  have sD : st2 D = none := (o2.hid D (.inr rfl)).1
  by_cases hlt : i < ds.length
  · refine .inr ⟨wg i hlt, fun H' => ∃ (st2 : Store) (acc : List G.D) (vs : List V), H' D = some (.lst vs) ∧ RepL W (Hide B D) st2 H' vs acc ∧ RH W (Hide B D) st2 H' ∧
      (∀ a o, st1 a = none → a ≠ D → H1 a = some o → st2 a = none ∧ H' a = some o) ∧ turns (turn p own mt me ρ) (ds.drop (i + 1)) st2 acc fun xs st2 => P (.lst xs) st2,
      fun H' z => ⟨ds.length - (i + 1), by omega, hlt, rfl, z⟩, fun x H3 hy => ?_⟩
    have hdi : ds[i]? = some ds[i] := List.getElem?_eq_getElem hlt
    obtain ⟨rx, sm⟩ := wy i ds[i] x H3 hdi hy
    have hdr : ds.drop i = ds[i] :: ds.drop (i + 1) := List.drop_eq_getElem_cons hlt
    rw [hdr] at hT
    have o3 := o2.same sm
    have r3 : R W (Hide B D) (wipeE ρ own) st2 (wipe σ own) H3 := ((r1.gro gH' o2).same sm).wipe _
    refine ⟨Hide B D, _, st2, ds[i], _, r3, rx, hT, fun ρ1 σ1 hm r4 hw => ⟨?_, ?_⟩⟩
    · have z := hw own hp
      rw [z]
      apply List.ext_getElem?
      intro j
      by_cases hj : j ∈ own
      · by_cases hl : j < σ.length
        · rw [wipe_get _ _ j hj (by rw [wipe_length]; exact hl), wipe_get _ _ j hj hl]
        · rw [List.getElem?_eq_none (by rw [wipe_length, wipe_length]; simpa using hl), List.getElem?_eq_none (by rw [wipe_length]; simpa using hl)]
      · rw [wipe_out _ _ j hj]
    · refine ⟨Hide B D, ρ1, st2, _, r4, hm, fun t st3 H4 ⟨b, e, hb⟩ o4 g4 => ⟨b, e, ?_⟩⟩
      have g24 : ∀ a o, st1 a = none → a ≠ D → H1 a = some o → st3 a = none ∧ H4 a = some o := fun a o e1 e2 e3 => by
        obtain ⟨z1, z2⟩ := g2 a o e1 e2 e3
        exact g4 a o z1 (sm _ _ z2)
      obtain ⟨s4, d4⟩ := g4 D _ sD (sm _ _ hd)
      have l4 : RepL W (Hide B D) st3 H4 vs acc := (l.grow (Grow.same sm)).grow g4
      cases b with
      | true =>
        simp only [if_true] at hb ⊢
        refine ⟨Hide B D, ρ1, st3, _, r4.step g4 o4, hb, fun y st5 v H5 hk r5 o5 g5 => ?_⟩
        obtain ⟨s5, d5⟩ := g5 D _ s4 d4
        obtain ⟨hz, hk⟩ := hk
        have l5 := l4.grow g5
        refine ⟨vs, d5, by rw [l5.length]; exact hz, st5, acc ++ [y], vs ++ [v], upd_same, (l5.app (.cons r5 .nil)).gro (Gro.hidden (.inr rfl)), ?_, fun a o e1 e2 e3 => ?_, hk⟩
        · refine ⟨fun a o e => ?_, fun a z => ?_⟩
          · have ne : a ≠ D := fun q => by rw [q, s5] at e; cases e
            exact (o5.ob a o e).keep (Gro.hidden (.inr rfl)) fun u q => by rw [upd_ne ne]; exact q
          · obtain ⟨z1, o, z2⟩ := o5.hid a z
            by_cases e : a = D
            · rw [e]; exact ⟨s5, _, upd_same⟩
            · exact ⟨z1, o, by rw [upd_ne e]; exact z2⟩
        · obtain ⟨z1, z2⟩ := g24 a o e1 e2 e3
          obtain ⟨z3, z4⟩ := g5 a o z1 z2
          exact ⟨z3, by rw [upd_ne e2]; exact z4⟩
      | false =>
        simp only [Bool.false_eq_true, if_false] at hb ⊢
        exact ⟨st3, acc, vs, d4, l4, o4, g24, hb⟩
  · have e : i = ds.length := by omega
    subst e
    rw [List.drop_length] at hT
    refine .inl ⟨ws, ?_⟩
    have z := q (.lst acc) st2 (cut H2 D) D (.lst vs) hT (if_pos rfl) ⟨vs, rfl, l.cut1⟩ (o2.unhide nBD) (fun a o e1 e2 => ?_)
    · rw [upd_cut hd] at z
      exact z
    · obtain ⟨z1, z2⟩ := g1 a o e1 e2
      have ne : a ≠ D := fun q => by rw [q, hD] at z2; cases z2
      obtain ⟨z3, z4⟩ := g2 a o z1 ne z2
      exact ⟨z3, by rw [cut_ne ne]; exact z4⟩
theorem p_comp {elt tg iter : Expr} {ifs : List Expr} {scope : Scope} {own : List (Str × Nat)} {mi : MA} {mt me : M} {p : Pt} (hc : X.calm = true) (hN : X.N.Nodup) (hi : PI X tg iter (LI W mi)) (ok : BlkOk X.N X.env.scope scope own)
    (hg : ∀ (s : Shared) (H : Hp) (C : Addr) (cl : List (Str × Addr)) (fp : List Addr), PG (X.blk s H scope (compEnvC scope cl C X.env) fp) tg (LG W p)) (hp : ∀ i ∈ p.slots, i ∈ own.map (·.2))
    (ht : ∀ (s : Shared) (H : Hp) (C : Addr) (cl : List (Str × Addr)) (fp : List Addr), PTs (X.blk s H scope (compEnvC scope cl C X.env) fp) ifs (LT W mt))
    (he : ∀ (s : Shared) (H : Hp) (C : Addr) (cl : List (Str × Addr)) (fp : List Addr), PE (X.blk s H scope (compEnvC scope cl C X.env) fp) elt (LE W me)) (hs : ∀ x, foldedSetIterable iter X.env x = pure x) :
    PE X (.ListComp elt [⟨tg, iter, ifs, 0⟩] scope pos) (LP W fun ρ st Q => mi ρ st fun ds st1 => turns (turn p (own.map (·.2)) mt me ρ) ds st1 [] fun xs st2 => Q (.lst xs) st2) :=
  (pe_lc hc hN hi ok hg ht he hs).mono (comp_lift hp)
end
end G
/-! Methods of built-ins, attributes, calls of defs. -/
namespace G
open PySem PySem.Spec PyProof.Rows L2
theorem Store.set_same {st : Store} {a : Addr} {o : Ob} : st.set a o a = some o := by unfold Store.set; rw [if_pos rfl]
section
variable {X : Cx} {W : Wd} {pos apos : Pos}
theorem loc_lst {B : Addr → Prop} {st : Store} {H : Hp} {v : V} {a : Addr} {xs : List D} (o : RH W B st H) (r : Rep W B st H v (.loc a)) (e : st a = some (.lst xs)) : v = .ref a ∧ ∃ vs, H a = some (.lst vs) ∧ RepL W B st H vs xs := by
  cases r
  exact ⟨rfl, o.ob _ _ e⟩
/-- a list written anew -/
theorem setL {B : Addr → Prop} {st : Store} {H : Hp} {a : Addr} {xs ys : List D} {us : List V} (o : RH W B st H) (e : st a = some (.lst xs)) (l : RepL W B st H us ys) : RH W B (st.set a (.lst ys)) (upd H a (.lst us)) ∧ Grow st H (st.set a (.lst ys)) (upd H a (.lst us)) :=
  o.write e fun g => ⟨us, upd_same, l.grow g⟩
theorem few1 {e : Expr} {X : Cx} {cpos : Pos} (hs : starEach [e] X.env = [(false, eval e X.env)]) : ((backTo cpos (starEach [e] X.env)).all (fun x => !x.1) && (backToKw cpos (keywordEach [] X.env)).all (fun x => x.1.isSome)
      && decide ([e].length + ([] : List Keyword).length + (if ([] : List Keyword).isEmpty then 0 else 1) < 30)) = true := by
  rw [hs]; rfl
theorem few2 {e e2 : Expr} {X : Cx} {cpos : Pos} (hs : starEach [e, e2] X.env = [(false, eval e X.env), (false, eval e2 X.env)]) : ((backTo cpos (starEach [e, e2] X.env)).all (fun x => !x.1) && (backToKw cpos (keywordEach [] X.env)).all (fun x => x.1.isSome)
      && decide ([e, e2].length + ([] : List Keyword).length + (if ([] : List Keyword).isEmpty then 0 else 1) < 30)) = true := by
  rw [hs]; rfl
theorem s_app {o e : Expr} {mo me : M} (ho : PE X o (LE W mo)) (he : PE X e (LE W me)) (hb : ∀ w, attributeBase o "append" X.env w = w) (hl : (apos.endLine == pos.line) = true) (hs : starEach [e] X.env = [(false, eval e X.env)]) :
    PE X (.Call (.Attribute o "append" apos) [e] [] pos) (LE W fun ρ st Q => mo ρ st fun x st1 => ∃ a zs, x = .loc a ∧ st1 a = some (.lst zs) ∧ me ρ st1 fun d st2 => ∃ xs, st2 a = some (.lst xs) ∧ xs.length < sizeLine ∧ Q .non (st2.set a (.lst (xs ++ [d])))) := by
  refine (pe_bm PySem.F.plainAttrs_list PySem.F.slot_list_append PySem.F.type_list_append mt_append ho (pa_cons he pa_nil hs) (hb _) (few1 hs) hl hs rfl).mono fun σ H Q ⟨B, ρ, st, P, r, h, q⟩ => ?_
  refine ⟨B, ρ, st, _, r, h, fun d1 st1 v1 H1 ⟨a, zs, e1, e2, h1⟩ r1 o1 g1 => ?_⟩
  subst e1
  obtain ⟨rfl, vs, w, l⟩ := loc_lst o1 r1 e2
  refine ⟨.inl ⟨rfl, _, .of w⟩, B, ρ, st1, _, r.step g1 o1, h1, fun d2 st2 v2 H2 ⟨xs, e3, hz, h2⟩ r2 o2 g2 => ?_⟩
  obtain ⟨us, w2, l2⟩ := o2.ob _ _ e3
  obtain ⟨o3, g3⟩ := setL o2 e3 (l2.app (.cons r2 .nil))
  exact ⟨a, us, v2, rfl, rfl, w2, by rw [l2.length]; exact hz, q _ _ _ _ h2 .non o3 (g1.trans (g2.trans g3))⟩
theorem RepL.dropLast {B : Addr → Prop} {st : Store} {H : Hp} : ∀ {vs : List V} {ds : List D}, RepL W B st H vs ds → RepL W B st H vs.dropLast ds.dropLast
  | _, _, .nil => .nil
  | _, _, .cons _ .nil => .nil
  | _, _, .cons r (.cons q t) => .cons r (RepL.dropLast (.cons q t))
theorem RepL.eraseIdx {B : Addr → Prop} {st : Store} {H : Hp} : ∀ {vs : List V} {ds : List D} (i : Nat), RepL W B st H vs ds → RepL W B st H (vs.eraseIdx i) (ds.eraseIdx i)
  | _, _, _, .nil => .nil
  | _, _, 0, .cons _ t => t
  | _, _, i + 1, .cons r t => .cons r (RepL.eraseIdx i t)
theorem s_pop {o : Expr} {mo : M} (ho : PE X o (LE W mo)) (hb : ∀ w, attributeBase o "pop" X.env w = w) (hl : (apos.endLine == pos.line) = true) :
    PE X (.Call (.Attribute o "pop" apos) [] [] pos) (LE W fun ρ st Q => mo ρ st fun x st1 => ∃ a xs d, x = .loc a ∧ st1 a = some (.lst xs) ∧ xs.getLast? = some d ∧ Q d (st1.set a (.lst xs.dropLast))) := by
  refine (pe_bm0 PySem.F.plainAttrs_list PySem.F.slot_list_pop PySem.F.type_list_pop mt_pop ho (hb _) hl).mono fun σ H Q ⟨B, ρ, st, P, r, h, q⟩ => ?_
  refine ⟨B, ρ, st, _, r, h, fun d1 st1 v1 H1 ⟨a, xs, d, e1, e2, e3, h1⟩ r1 o1 g1 => ?_⟩
  subst e1
  obtain ⟨rfl, vs, w, l⟩ := loc_lst o1 r1 e2
  obtain ⟨o3, g3⟩ := setL o1 e2 l.dropLast
  rw [List.getLast?_eq_getElem?] at e3
  obtain ⟨v, e4, rv⟩ := l.get _ _ e3
  exact ⟨.inl ⟨rfl, _, .of w⟩, a, vs, v, rfl, rfl, w, by rw [l.length]; exact e4, q _ _ _ _ h1 (rv.grow g3) o3 (g1.trans g3)⟩
theorem seqIx {j n : Nat} (h : j < n) : seqIndex? (j : Int) n = some j := (ixN_seq (by unfold ixN; rw [if_pos (by omega), if_pos (by omega)]; simp)).1
theorem s_popAt {o e : Expr} {mo me : M} (ho : PE X o (LE W mo)) (he : PE X e (LE W me)) (hb : ∀ w, attributeBase o "pop" X.env w = w) (hl : (apos.endLine == pos.line) = true) (hs : starEach [e] X.env = [(false, eval e X.env)]) :
    PE X (.Call (.Attribute o "pop" apos) [e] [] pos) (LE W fun ρ st Q => mo ρ st fun x st1 => ∃ a zs, x = .loc a ∧ st1 a = some (.lst zs) ∧ me ρ st1 fun y st2 => ∃ (xs : List D) (j : Nat) (d : D), st2 a = some (.lst xs) ∧ y = .int j ∧ j < 1000000 ∧ xs[j]? = some d ∧ Q d (st2.set a (.lst (xs.eraseIdx j)))) := by
  refine (pe_bm PySem.F.plainAttrs_list PySem.F.slot_list_pop PySem.F.type_list_pop mt_popAt ho (pa_cons he pa_nil hs) (hb _) (few1 hs) hl hs rfl).mono fun σ H Q ⟨B, ρ, st, P, r, h, q⟩ => ?_
  refine ⟨B, ρ, st, _, r, h, fun d1 st1 v1 H1 ⟨a, zs, e1, e2, h1⟩ r1 o1 g1 => ?_⟩
  subst e1
  obtain ⟨rfl, vs, w, l⟩ := loc_lst o1 r1 e2
  refine ⟨.inl ⟨rfl, _, .of w⟩, B, ρ, st1, _, r.step g1 o1, h1, fun d2 st2 v2 H2 ⟨xs, j, d, e3, e4, hj, e5, h2⟩ r2 o2 g2 => ?_⟩
  subst e4
  cases r2
  obtain ⟨us, w2, l2⟩ := o2.ob _ _ e3
  obtain ⟨o3, g3⟩ := setL o2 e3 (l2.eraseIdx j)
  obtain ⟨v, e6, rv⟩ := l2.get _ _ e5
  have hlt : j < us.length := (List.getElem?_eq_some_iff.mp e6).1
  exact ⟨a, us, j, j, v, rfl, rfl, w2, by omega, by omega, seqIx hlt, e6, q _ _ _ _ h2 (rv.grow g3) o3 (g1.trans (g2.trans g3))⟩
theorem s_ins {o i e : Expr} {mo mi me : M} (ho : PE X o (LE W mo)) (hi : PE X i (LE W mi)) (he : PE X e (LE W me)) (hb : ∀ w, attributeBase o "insert" X.env w = w) (hl : (apos.endLine == pos.line) = true) (hs : starEach [i, e] X.env = [(false, eval i X.env), (false, eval e X.env)]) (hs2 : starEach [e] X.env = [(false, eval e X.env)]) :
    PE X (.Call (.Attribute o "insert" apos) [i, e] [] pos) (LE W fun ρ st Q => mo ρ st fun x st1 => ∃ a zs, x = .loc a ∧ st1 a = some (.lst zs) ∧ mi ρ st1 fun y st2 => me ρ st2 fun d st3 => ∃ (xs : List D) (j : Nat), st3 a = some (.lst xs) ∧ y = .int j ∧ j < 1000000 ∧ xs.length < sizeLine ∧
      Q .non (st3.set a (.lst (xs.take j ++ [d] ++ xs.drop j)))) := by
  refine (pe_bm PySem.F.plainAttrs_list PySem.F.slot_list_insert PySem.F.type_list_insert mt_insert ho (pa_cons hi (pa_cons he pa_nil hs2) (by rw [hs, hs2])) (hb _) (few2 hs) hl (by rw [hs, hs2]) (by rw [hs2]; rfl)).mono fun σ H Q ⟨B, ρ, st, P, r, h, q⟩ => ?_
  refine ⟨B, ρ, st, _, r, h, fun d1 st1 v1 H1 ⟨a, zs, e1, e2, h1⟩ r1 o1 g1 => ?_⟩
  subst e1
  obtain ⟨rfl, vs, w, l⟩ := loc_lst o1 r1 e2
  refine ⟨.inl ⟨rfl, _, .of w⟩, B, ρ, st1, _, r.step g1 o1, h1, fun d2 st2 v2 H2 h2 r2 o2 g2 => ⟨B, ρ, st2, _, r.step (g1.trans g2) o2, h2, fun d3 st3 v3 H3 ⟨xs, j, e3, e4, hj, hz, h3⟩ r3 o3 g3 => ?_⟩⟩
  subst e4
  cases r2
  obtain ⟨us, w2, l2⟩ := o3.ob _ _ e3
  obtain ⟨o4, g4⟩ := setL o3 e3 (((l2.take j).app (.cons r3 .nil)).app (l2.drop j))
  exact ⟨a, us, j, v3, rfl, rfl, w2, by rw [l2.length]; exact hz, by omega, by omega, q _ _ _ _ h3 .non o4 (g1.trans (g2.trans (g3.trans g4)))⟩
theorem s_upper {o : Expr} {mo : M} (ho : PE X o (LE W mo)) (hb : ∀ w, attributeBase o "upper" X.env w = w) (hl : (apos.endLine == pos.line) = true) :
    PE X (.Call (.Attribute o "upper" apos) [] [] pos) (LE W fun ρ st Q => mo ρ st fun x st1 => ∃ z, x = .str z ∧ z.length ≤ 1000 ∧ Q (.str (Txt.upper z)) st1) := by
  refine (pe_upper ho (hb _) hl).mono fun σ H Q ⟨B, ρ, st, P, r, h, q⟩ => ?_
  refine ⟨B, ρ, st, _, r, h, fun d1 st1 v1 H1 ⟨z, e1, e2, h1⟩ r1 o1 g1 => ?_⟩
  subst e1; cases r1
  exact ⟨⟨_, rfl⟩, z, rfl, rfl, by omega, q _ _ _ _ h1 (.str _) o1 g1⟩
theorem vals_str {B : Addr → Prop} {st : Store} {H : Hp} : ∀ {vs : List V} {ds : List D} {bs : List Str}, RepL W B st H vs ds → strsD ds = some bs → vs = bs.map V.str
  | _, _, _, .nil, e => by cases e; rfl
  | _, _, _, .cons r t, e => by
    cases r <;> simp [strsD] at e
    obtain ⟨bs', e1, rfl⟩ := e
    rw [vals_str t e1]; rfl
theorem s_join {o e : Expr} {mo me : M} (ho : PE X o (LE W mo)) (he : PE X e (LE W me)) (hb : ∀ w, attributeBase o "join" X.env w = w) (hl : (apos.endLine == pos.line) = true) (hs : starEach [e] X.env = [(false, eval e X.env)]) :
    PE X (.Call (.Attribute o "join" apos) [e] [] pos) (LE W fun ρ st Q => mo ρ st fun x st1 => ∃ z, x = .str z ∧ me ρ st1 fun y st2 => ∃ xs ys, lstOf st2 y = some xs ∧ strsD xs = some ys ∧ (ys.map (·.length)).sum + ys.length * z.length ≤ 1000000 ∧ Q (.str (Txt.join z ys)) st2) := by
  refine (pe_join ho he hs (hb _) hl).mono fun σ H Q ⟨B, ρ, st, P, r, h, q⟩ => ?_
  refine ⟨B, ρ, st, _, r, h, fun d1 st1 v1 H1 ⟨z, e1, h1⟩ r1 o1 g1 => ?_⟩
  subst e1; cases r1
  refine ⟨⟨_, rfl⟩, B, ρ, st1, _, r.step g1 o1, h1, fun d2 st2 v2 H2 ⟨xs, ys, e3, e4, hz, h2⟩ r2 o2 g2 => ?_⟩
  obtain ⟨a, vs, rfl, l, w⟩ := lst_of o2 r2 e3
  exact ⟨z, a, ys, rfl, rfl, .inl (by rw [← vals_str l e4]; exact .of w), by omega, q _ _ _ _ h2 (.str _) o2 (g1.trans g2)⟩

/-! ### attributes -/
theorem ins_of {B : Addr → Prop} {st : Store} {H : Hp} {v : V} {d : D} {c : Str} {fs : List (Str × D)} (o : RH W B st H) (r : Rep W B st H v d) (e : insOf st d = some (c, fs)) :
    ∃ a C dx gs, v = .ref a ∧ H a = some (.ins C dx gs) ∧ W.cls c = some C ∧ RepF W B st H gs fs := by
  cases r with
  | ins z f k l => cases e; exact ⟨_, _, _, _, rfl, f, k, l⟩
  | loc a =>
    have e' : (match st a with | some (.ins c fs) => some (c, fs) | _ => none) = some (c, fs) := e
    split at e'
    · rename_i c' fs' hs
      cases e'
      obtain ⟨C, dx, gs, f, k, l⟩ := o.ob _ _ hs
      exact ⟨_, _, _, _, rfl, f, k, l⟩
    · cases e'
  | _ => cases e
theorem s_att {o : Expr} {mo : M} {f : Str} {cf : Str → Str → Bool} (hcf : ∀ c C, cf c f = true → W.cls c = some C → Cls X.K C ∧ NoAttr X.K C f) (ho : PE X o (LE W mo)) (hb : ∀ w, attributeBase o f X.env w = w) :
    PE X (.Attribute o f pos) (LE W fun ρ st Q => mo ρ st fun x st1 => ∃ c fs d, insOf st1 x = some (c, fs) ∧ cf c f = true ∧ fs.lookup f = some d ∧ Q d st1) := by
  refine (pe_fld ho (hb _)).mono fun σ H Q ⟨B, ρ, st, P, r, h, q⟩ => ?_
  refine ⟨B, ρ, st, _, r, h, fun d1 st1 v1 H1 ⟨c, fs, d, e1, e2, e3, h1⟩ r1 o1 g1 => ?_⟩
  obtain ⟨a, C, dx, gs, rfl, w, k, l⟩ := ins_of o1 r1 e1
  obtain ⟨c1, c2⟩ := hcf c C e2 k
  obtain ⟨v, e4, rv⟩ := l.lookup f d e3
  exact ⟨a, C, dx, gs, v, rfl, w, c1, c2, e4, q _ _ _ _ h1 rv o1 g1⟩

/-! ### calls of defs -/
/-- a promise over plain values, of the heap -/
def LS (W : Wd) (sp : Spec) : Sp := fun vs H Q _ => ∃ B st ds P, RH W B st H ∧ RepL W B st H vs ds ∧ sp ds st P (fun _ _ _ => False) ∧
  ∀ d st' v H', P d st' → Rep W B st' H' v d → RH W B st' H' → Grow st H st' H' → Q v H'
theorem lift_call {ms : MA} {sp : Spec} : ∀ σ H Q, LE W (fun ρ st P => ms ρ st fun ds st1 => sp ds st1 P (fun _ _ _ => False)) σ H Q → tCall (LS W sp) [] E0 (LA W ms) σ H Q := by
  intro σ H Q ⟨B, ρ, st, P, r, h, q⟩
  refine ⟨B, ρ, st, _, r, h, fun ds st1 vs H1 h1 r1 o1 g1 => ?_⟩
  show LS W sp (vs ++ []) H1 Q E0
  rw [List.append_nil]
  exact ⟨B, st1, ds, P, o1, r1, h1, fun d st2 v H2 hp rv o2 g2 => q _ _ _ _ hp rv o2 (g1.trans g2)⟩
theorem s_call {k : Nat} {g : Addr} {fd : FuncData} {ps : List Str} {sp : Spec} {x : Str} {p : Pos} {e : Expr} {es : List Expr} {ms : MA} (F : FnOk X.prog X.w X.K X.mg X.base CX0 k g fd ps (LS W sp)) (hr : Room k X.A) (hg : Gl X x) (hm : X.mg x = some (.ref g)) (hk : PySem.W.keepIn X.K (.ref g) = true) (hb : Binds X.K fd ps [])
    (ha : PA X (e :: es) (LA W ms)) (hd : (x == ("__debug__" : Str)) = false) (hs : starEach (e :: es) X.env = (false, eval e X.env) :: starEach es X.env) (hpl : ((backTo pos (starEach es X.env)).any fun x => x.1) = false) :
    PE X (.Call (.Name x p) (e :: es) [] pos) (LE W fun ρ st Q => ms ρ st fun ds st1 => sp ds st1 Q (fun _ _ _ => False)) :=
  (pe_call F hr hg hm hk hb .nil pass0 ha hd hs hpl).mono lift_call
theorem s_call0 {k : Nat} {g : Addr} {fd : FuncData} {ps : List Str} {sp : Spec} {x : Str} {p : Pos} (F : FnOk X.prog X.w X.K X.mg X.base CX0 k g fd ps (LS W sp)) (hr : Room k X.A) (hg : Gl X x) (hm : X.mg x = some (.ref g)) (hk : PySem.W.keepIn X.K (.ref g) = true) (hb : Binds X.K fd ps [])
    (hd : (x == ("__debug__" : Str)) = false) : PE X (.Call (.Name x p) [] [] pos) (LE W fun _ st Q => sp [] st Q (fun _ _ _ => False)) :=
  (pe_call0 F hr hg hm hk hb .nil pass0 hd).mono fun σ H Q ⟨B, ρ, st, P, r, h, q⟩ => ⟨B, st, [], P, r.ob, .nil, h, q⟩
theorem meth_eval {o : Expr} {m : Str} {es : List Expr} {env : PySem.Env} (hb : ∀ w, attributeBase o m env w = w) (hl : (apos.endLine == pos.line) = true) (hf : methodCallForm es.length (backTo pos (starEach es env)) (backToKw pos (keywordEach [] env)) = true) :
    eval (.Call (.Attribute o m apos) es [] pos) env = (do
      let ov ← eval o env
      standAt apos.atName
      let (f, first) ← holding [ov] (getMethod ov m (do return (← importBound o env).getD true))
      callWith pos f first (backTo pos (starEach es env)) (backToKw pos (keywordEach [] env))) := by
  have e : eval (.Call (.Attribute o m apos) es [] pos) env = (do
      let ov ← attributeBase o m env (eval o env)
      standAt apos.atName
      methodCall o m apos pos env ov (es.length + ([] : List Keyword).length) (backTo pos (starEach es env)) (backToKw pos (keywordEach [] env))) := by rw [eval]
  rw [e, hb]
  have e2 : es.length + ([] : List Keyword).length = es.length := rfl
  simp only [methodCall, e2, hf, calleeOf, methodCallPos, hl, if_true, Bool.not_true, Bool.false_or]
  rfl
theorem s_mcl {o : Expr} {mo : M} {c m : Str} {C : Addr} {k : Nat} {g : Addr} {fd : FuncData} {ps : List Str} {sp : Spec} {e : Expr} {es : List Expr} {ms : MA} (ho : PE X o (LE W mo)) (hc : W.cls c = some C) (cl : Cls X.K C) (hm : Meth X.K C m g)
    (F : FnOk X.prog X.w X.K X.mg X.base CX0 k g fd ps (LS W sp)) (hr : Room k X.A) (hb : Binds X.K fd ps []) (ha : PA X (e :: es) (LA W ms)) (hs : starEach (e :: es) X.env = (false, eval e X.env) :: starEach es X.env) (hpl : ((backTo pos (starEach es X.env)).any fun x => x.1) = false)
    (hat : ∀ w, attributeBase o m X.env w = w) (hl : (apos.endLine == pos.line) = true) (hf : methodCallForm (e :: es).length (backTo pos (starEach (e :: es) X.env)) (backToKw pos (keywordEach [] X.env)) = true) :
    PE X (.Call (.Attribute o m apos) (e :: es) [] pos) (LE W fun ρ st Q => mo ρ st fun x st1 => ∃ fs, insOf st1 x = some (c, fs) ∧ fs.lookup m = none ∧ ms ρ st1 fun ds st2 => sp (x :: ds) st2 Q (fun _ _ _ => False)) := by
  refine (pe_meth ho cl hm F hr hb .nil pass0 ha hs hpl (meth_eval hat hl hf)).mono fun σ H Q ⟨B, ρ, st, P, r, h, q⟩ => ?_
  refine ⟨B, ρ, st, _, r, h, fun d1 st1 v1 H1 ⟨fs, e1, e2, h1⟩ r1 o1 g1 => ?_⟩
  obtain ⟨a, C', dx, gs, rfl, w, k', l⟩ := ins_of o1 r1 e1
  rw [hc] at k'; cases k'
  refine ⟨a, dx, gs, rfl, w, ?_, B, ρ, st1, _, r.step g1 o1, h1, fun ds st2 vs H2 h2 r2 o2 g2 => ?_⟩
  · cases z : gs.lookup m with
    | none => rfl
    | some v =>
      have : (m, v) ∈ gs := PySem.mem_of_lookup z
      have hm1 : m ∈ gs.map (·.1) := List.mem_map.mpr ⟨_, this, rfl⟩
      rw [l.keys] at hm1
      obtain ⟨p, hp, rfl⟩ := List.mem_map.mp hm1
      obtain ⟨d', hd'⟩ := mem_lookup (n := p.1) (c := p.2) hp
      rw [e2] at hd'; cases hd'
  · show LS W sp (.ref a :: (vs ++ [])) H2 Q E0
    rw [List.append_nil]
    exact ⟨B, st2, _, P, o2, .cons (r1.grow g2) r2, h2, fun d st3 v H3 hp rv o3 g3 => q _ _ _ _ hp rv o3 (g1.trans (g2.trans g3))⟩
theorem s_mcl0 {o : Expr} {mo : M} {c m : Str} {C : Addr} {k : Nat} {g : Addr} {fd : FuncData} {ps : List Str} {sp : Spec} (ho : PE X o (LE W mo)) (hc : W.cls c = some C) (cl : Cls X.K C) (hm : Meth X.K C m g)
    (F : FnOk X.prog X.w X.K X.mg X.base CX0 k g fd ps (LS W sp)) (hr : Room k X.A) (hb : Binds X.K fd ps [])
    (hat : ∀ w, attributeBase o m X.env w = w) (hl : (apos.endLine == pos.line) = true) :
    PE X (.Call (.Attribute o m apos) [] [] pos) (LE W fun ρ st Q => mo ρ st fun x st1 => ∃ fs, insOf st1 x = some (c, fs) ∧ fs.lookup m = none ∧ sp [x] st1 Q (fun _ _ _ => False)) := by
  refine (pe_meth0 ho cl hm F hr hb .nil pass0 (meth_eval hat hl rfl)).mono fun σ H Q ⟨B, ρ, st, P, r, h, q⟩ => ?_
  refine ⟨B, ρ, st, _, r, h, fun d1 st1 v1 H1 ⟨fs, e1, e2, h1⟩ r1 o1 g1 => ?_⟩
  obtain ⟨a, C', dx, gs, rfl, w, k', l⟩ := ins_of o1 r1 e1
  rw [hc] at k'; cases k'
  refine ⟨a, dx, gs, rfl, w, ?_, ?_⟩
  · cases z : gs.lookup m with
    | none => rfl
    | some v =>
      have : (m, v) ∈ gs := PySem.mem_of_lookup z
      have hm1 : m ∈ gs.map (·.1) := List.mem_map.mpr ⟨_, this, rfl⟩
      rw [l.keys] at hm1
      obtain ⟨p, hp, rfl⟩ := List.mem_map.mp hm1
      obtain ⟨d', hd'⟩ := mem_lookup (n := p.1) (c := p.2) hp
      rw [e2] at hd'; cases hd'
  · show LS W sp (.ref a :: ([] ++ [])) H1 Q E0
    exact ⟨B, st1, _, P, o1, .cons r1 .nil, h1, fun d st3 v H3 hp rv o3 g3 => q _ _ _ _ hp rv o3 (g1.trans g3)⟩
/-- a new instance -/
theorem ins_new {B : Addr → Prop} {st : Store} {H : Hp} {x dx C : Addr} {c : Str} (o : RH W B st H) (hx : H x = none) (hdx : H dx = none) (ne : dx ≠ x) (hc : W.cls c = some C) :
    RH W B (st.set x (.ins c [])) (upd (upd H dx (.own x)) x (.ins C dx [])) ∧ Grow st H (st.set x (.ins c [])) (upd (upd H dx (.own x)) x (.ins C dx [])) ∧ st x = none := by
  have s1 := same_upd (u := .own x) hdx
  have hx1 : upd H dx (.own x) x = none := by rw [upd_ne ne.symm]; exact hx
  obtain ⟨o2, g2⟩ := (o.same s1).alloc (u := .ins C dx []) (o' := .ins c []) hx1 fun _ => ⟨C, dx, [], upd_same, hc, .nil⟩
  exact ⟨o2, (Grow.same s1).trans g2, (o.free hx).1⟩
theorem lift_make {c : Str} {C : Addr} {ms : MA} {sp : Spec} (hc : W.cls c = some C) : ∀ σ H Q, LE W (fun ρ st P => ms ρ st fun ds st1 => ∀ a, st1 a = none → sp (.loc a :: ds) (st1.set a (.ins c [])) (fun d st2 => d = .non ∧ P (.loc a) st2) (fun _ _ _ => False)) σ H Q →
    tMake C (LS W sp) [] E0 (LA W ms) σ H Q := by
  intro σ H Q ⟨B, ρ, st, P, r, h, q⟩
  refine ⟨B, ρ, st, _, r, h, fun ds st1 vs H1 h1 r1 o1 g1 x dx hx hdx ne => ?_⟩
  obtain ⟨o2, g2, hn⟩ := ins_new o1 hx hdx ne hc
  rw [List.append_nil]
  refine ⟨B, _, .loc x :: ds, _, o2, .cons (.loc x) (r1.grow g2), h1 x hn, fun d st2 v H2 ⟨hd, hp⟩ rv o3 g3 => ?_⟩
  subst hd
  cases rv
  exact ⟨rfl, q _ _ _ _ hp (.loc x) o3 (g1.trans (g2.trans g3))⟩
theorem s_new {c : Str} {C : Addr} {k : Nat} {g : Addr} {fd : FuncData} {ps : List Str} {sp : Spec} {p : Pos} {e : Expr} {es : List Expr} {ms : MA} (hc : W.cls c = some C) (mk : Mk X.K C g) (F : FnOk X.prog X.w X.K X.mg X.base CX0 k g fd ps (LS W sp)) (hr : Room (k + 1) X.A) (hg : Gl X c) (hm : X.mg c = some (.ref C)) (hb : Binds X.K fd ps [])
    (ha : PA X (e :: es) (LA W ms)) (hd : (c == ("__debug__" : Str)) = false) (hs : starEach (e :: es) X.env = (false, eval e X.env) :: starEach es X.env) (hpl : ((backTo pos (starEach es X.env)).any fun x => x.1) = false) :
    PE X (.Call (.Name c p) (e :: es) [] pos) (LE W fun ρ st Q => ms ρ st fun ds st1 => ∀ a, st1 a = none → sp (.loc a :: ds) (st1.set a (.ins c [])) (fun d st2 => d = .non ∧ Q (.loc a) st2) (fun _ _ _ => False)) :=
  (pe_make mk F hr hg hm hb .nil pass0 ha hd hs hpl).mono (lift_make hc)
end
end G
/-! The checker of expressions: a small expression tells a written one. -/
namespace G
open PySem PySem.Spec PyProof.Rows L2
/-- the built-ins that a program leans on -/
def bnames : List Str := ["len", "tuple", "max", "min", "all", "any", "int", "sum", "isinstance", "list", "sorted", "dict", "range", "zip", "enumerate", "set", "bool", "str"]
def biName : Bi → Str
  | .len => "len" | .tuple => "tuple" | .max => "max" | .min => "min" | .all => "all" | .any => "any" | .int => "int" | .sum => "sum"
/-! ### small looks at a written expression -/
def visB (sc : Scope) (x : Str) : Bool := match sc.names.lookup x with | some .local => true | some .cell => true | some .free => true | _ => false
def glB (sc : Scope) (x : Str) : Bool := match sc.names.lookup x with | some .globalImplicit => true | _ => false
def locB (sc : Scope) (x : Str) : Bool := match sc.names.lookup x with | some .local => true | some .cell => true | _ => false
def nameOk (x : Str) : Bool := !(x == ("__debug__" : Str)) && !(x == ("__classdict__" : Str)) && decide (x ≠ "__name__")
def plB : Expr → Bool | .Starred _ _ => false | _ => true
def nslB : Expr → Bool | .Slice _ _ _ _ => false | _ => true
def nsetB : Expr → Bool | .Set _ _ _ => false | _ => true
def supB : Expr → Bool | .Call (.Name _ _) [] [] _ => false | _ => true
/-- the test of such an expression is its value's truth -/
def plainT : Expr → Bool | .UnaryOp .Not _ _ => false | .BoolOp _ _ _ => false | .IfExp _ _ _ _ => false | .Compare _ _ _ _ => false | _ => true
theorem star_pl {e : Expr} {es : List Expr} {env : PySem.Env} (h : plB e = true) : starEach (e :: es) env = (false, eval e env) :: starEach es env := by
  cases e <;> first | rfl | cases h
theorem ix_pl {e : Expr} (h : nslB e = true) : PlainIx e := by
  intro o i
  cases e <;> first | rfl | cases h
theorem mark_no {e : Expr} {op : CmpOp} (h : nsetB e = true) : behindInMarks op e = false := by
  cases e <;> first | rfl | cases h
theorem fold_no {e : Expr} {env : PySem.Env} (h : nsetB e = true) : ∀ x, foldedSetIterable e env x = pure x := by
  intro x
  cases e <;> first | rfl | cases h
theorem sup_no {o : Expr} {a : Str} {env : PySem.Env} (h : supB o = true) : ∀ w, attributeBase o a env w = w := by
  intro w
  unfold attributeBase
  split
  · cases h
  · rfl
theorem true_pl {e : Expr} {env : PySem.Env} (h : plainT e = true) : ∀ whole, isTrue e env whole = (do let v ← whole; standAt e.pos; holding [v] (truthy v)) := by
  intro whole
  cases e <;> first | rfl | (cases h) | skip
  all_goals (rename_i op x p; cases op <;> first | rfl | cases h)
theorem vis_of {sc : Scope} {x : Str} (h : visB sc x = true) : Vis sc x := by
  unfold visB at h
  split at h
  · exact .inl (by assumption)
  · exact .inr (.inl (by assumption))
  · exact .inr (.inr (by assumption))
  · cases h
theorem loc_of {sc : Scope} {x : Str} (h : locB sc x = true) : Loc sc x := by
  unfold locB at h
  split at h
  · exact .inl (by assumption)
  · exact .inr (by assumption)
  · cases h
theorem gl_of {sc : Scope} {x : Str} (h : glB sc x = true) : sc.names.lookup x = some .globalImplicit := by
  unfold glB at h
  split at h
  · assumption
  · cases h
theorem name_of {x : Str} (h : nameOk x = true) : (x == ("__debug__" : Str)) = false ∧ (x == ("__classdict__" : Str)) = false ∧ x ≠ "__name__" := by
  unfold nameOk at h
  simp only [Bool.and_eq_true, Bool.not_eq_true', decide_eq_true_eq] at h
  exact ⟨h.1.1, h.1.2, h.2⟩
/-- the names of the places, the defs and methods that are told -/
structure Kx where
  N : List Str
  fns : List Str
  mes : List (Str × Str)
def nmB (κ : Kx) (i : Nat) (x : Str) : Bool := decide (κ.N[i]? = some x)
def opB (o : Operator) : Bool := match o with | .Add => true | .Sub => true | .Mult => true | .Mod => true | .FloorDiv => true | .Pow => true | _ => false
def ownN (N : List Str) (own : List Nat) : List (Str × Nat) := own.map fun i => (N.getD i ⟨#[]⟩, i)
theorem ownN_snd (N : List Str) (own : List Nat) : (ownN N own).map (·.2) = own := by
  unfold ownN
  rw [List.map_map]
  show own.map (fun i => i) = own
  simp
mutual
/-- a target of names -/
def chPt (κ : Kx) (sc : Scope) : Pt → Expr → Bool
  | .var i, .Name x _ => nmB κ i x && locB sc x
  | .tup ps, .Tuple es _ _ => chPts κ sc ps es
  | _, _ => false
def chPts (κ : Kx) (sc : Scope) : Pts → List Expr → Bool
  | .nil, [] => true
  | .cons p ps, e :: es => plB e && chPt κ sc p e && chPts κ sc ps es
  | _, _ => false
end
def tysB1 (sc : Scope) (t : Str) (ts : List Ty) : Bool := match ts with | [u] => decide (t = Str.ofString (tyName u)) && decide (tyName u ≠ "") && glB sc t | _ => false
def tysB2 (sc : Scope) (t t' : Str) (ts : List Ty) : Bool := match ts with | [u, u'] => decide (t = Str.ofString (tyName u)) && decide (tyName u ≠ "") && glB sc t && decide (t' = Str.ofString (tyName u')) && decide (tyName u' ≠ "") && glB sc t' | _ => false
mutual
def chE (κ : Kx) (sc : Scope) : E → Expr → Bool
  | .var i, e => match e with | .Name x _ => nmB κ i x && visB sc x && nameOk x | _ => false
  | .non, e => match e with | .Constant .none _ _ => true | _ => false
  | .bl b, e => match e with | .Constant (.bool c) _ _ => b == c | _ => false
  | .int i, e => match e with | .Constant (.int j) _ _ => decide (i = j) | _ => false
  | .str x, e => match e with | .Constant (.str y) _ _ => decide (x = y) | _ => false
  | .glo x, e => match e with | .Name y _ => decide (x = y) && glB sc y && nameOk y | _ => false
  | .tup es, e => match e with | .Tuple l _ _ => chEs κ sc es l | _ => false
  | .fr p, e => chP κ sc p e
  | .bx p, e => chP κ sc p e
  | .bin o a b, e => match e with | .BinOp l o' r _ => decide (o = o') && opB o && chE κ sc a l && chE κ sc b r | _ => false
  | .neg a, e => match e with | .UnaryOp .USub x _ => chE κ sc a x | _ => false
  | .cmp o a b, e => match e with | .Compare l [o'] [r] _ => decide (o = o') && nsetB r && chE κ sc a l && chE κ sc b r | _ => false
  | .cmp2 o1 o2 a b c, e => match e with | .Compare l [p1, p2] [r, u] _ => decide (o1 = p1) && decide (o2 = p2) && nsetB u && chE κ sc a l && chE κ sc b r && chE κ sc c u | _ => false
  | .bop k es, e => match e with | .BoolOp .And l _ => k && !l.isEmpty && chEs κ sc es l | .BoolOp .Or l _ => !k && !l.isEmpty && chEs κ sc es l | _ => false
  | .orv a b, e => match e with | .BoolOp .Or [x, y] _ => chE κ sc a x && chE κ sc b y | _ => false
  | .not a, e => match e with | .UnaryOp .Not x _ => chE κ sc a x | _ => false
  | .ite t a b, e => match e with | .IfExp c x y _ => chT κ sc t c && chE κ sc a x && chE κ sc b y | _ => false
  | .idx a i, e => match e with | .Subscript x y _ => nslB y && chE κ sc a x && chE κ sc i y | _ => false
  | .slc a lo hi, e => match e with | .Subscript x (.Slice l h none _) _ => chE κ sc a x && chO κ sc lo l && chO κ sc hi h | _ => false
  | .rev a, e => match e with | .Subscript x (.Slice none none (some (.UnaryOp .USub (.Constant (.int i) _ _) _)) _) _ => decide (i = 1) && chE κ sc a x | _ => false
  | .bi b a, e => match e with | .Call (.Name f _) [x] [] _ => decide (f = biName b) && glB sc f && plB x && chE κ sc a x && (match b with | .max => false | .min => false | _ => true) | _ => false
  | .mx m a b, e => match e with | .Call (.Name f _) [x, y] [] _ => decide (f = if m then "max" else "min") && glB sc f && plB x && plB y && chE κ sc a x && chE κ sc b y | _ => false
  | .isi a ts, e => match e with
    | .Call (.Name f _) [x, .Name t _] [] _ => decide (f = "isinstance") && glB sc f && plB x && chE κ sc a x && tysB1 sc t ts
    | .Call (.Name f _) [x, .Tuple [.Name t _, .Name t' _] _ _] [] _ => decide (f = "isinstance") && glB sc f && plB x && chE κ sc a x && tysB2 sc t t' ts
    | _ => false
  | .app o a, e => match e with | .Call (.Attribute v m ap) [x] [] p => decide (m = "append") && supB v && (ap.endLine == p.line) && plB x && chE κ sc o v && chE κ sc a x | _ => false
  | .pop o, e => match e with | .Call (.Attribute v m ap) [] [] p => decide (m = "pop") && supB v && (ap.endLine == p.line) && chE κ sc o v | _ => false
  | .popAt o a, e => match e with | .Call (.Attribute v m ap) [x] [] p => decide (m = "pop") && supB v && (ap.endLine == p.line) && plB x && chE κ sc o v && chE κ sc a x | _ => false
  | .ins o i a, e => match e with | .Call (.Attribute v m ap) [y, x] [] p => decide (m = "insert") && supB v && (ap.endLine == p.line) && plB y && plB x && chE κ sc o v && chE κ sc i y && chE κ sc a x | _ => false
  | .upper o, e => match e with | .Call (.Attribute v m ap) [] [] p => decide (m = "upper") && supB v && (ap.endLine == p.line) && chE κ sc o v | _ => false
  | .join o a, e => match e with | .Call (.Attribute v m ap) [x] [] p => decide (m = "join") && supB v && (ap.endLine == p.line) && plB x && chE κ sc o v && chE κ sc a x | _ => false
  | .get _ _, _ => false
  | .getd _ _ _, _ => false
  | .setd _ _ _, _ => false
  | .upd _ _, _ => false
  | .att o f, e => match e with | .Attribute v g _ => decide (f = g) && supB v && chE κ sc o v | _ => false
  | .call f es, e => match e with | .Call (.Name g _) l [] _ => decide (f = g) && decide (f ∈ κ.fns) && glB sc g && nameOk g && chEs κ sc es l | _ => false
  | .mcl c m o es, e => match e with | .Call (.Attribute v g ap) l [] p => decide (m = g) && decide (m ≠ "__init__") && decide ((c, m) ∈ κ.mes) && supB v && (ap.endLine == p.line) && decide (l.length < 29) && chE κ sc o v && chEs κ sc es l | _ => false
  | .new c es, e => match e with | .Call (.Name g _) l [] _ => decide (c = g) && decide ((c, ("__init__" : Str)) ∈ κ.mes) && glB sc g && nameOk g && !l.isEmpty && chEs κ sc es l | _ => false
  | .clv _ _, _ => false
  | .frz a, e => chE κ sc a e
/-- as a test -/
def chT (κ : Kx) (sc : Scope) : E → Expr → Bool
  | .not a, e => match e with | .UnaryOp .Not x _ => chT κ sc a x | _ => false
  | .bop k es, e => match e with | .BoolOp .And l _ => k && !l.isEmpty && chTs κ sc es l | .BoolOp .Or l _ => !k && !l.isEmpty && chTs κ sc es l | _ => false
  | .cmp o a b, e => match e with | .Compare l [o'] [r] _ => decide (o = o') && nsetB r && chE κ sc a l && chE κ sc b r | _ => false
  | .cmp2 o1 o2 a b c, e => match e with | .Compare l [p1, p2] [r, u] _ => decide (o1 = p1) && decide (o2 = p2) && nsetB u && chE κ sc a l && chE κ sc b r && chE κ sc c u | _ => false
  | .var i, e => match e with | .Name x _ => nmB κ i x && visB sc x && nameOk x | _ => false
  | .call f es, e => match e with | .Call (.Name g _) l [] _ => decide (f = g) && decide (f ∈ κ.fns) && glB sc g && nameOk g && chEs κ sc es l | _ => false
  | .mcl c m o es, e => match e with | .Call (.Attribute v g ap) l [] p => decide (m = g) && decide (m ≠ "__init__") && decide ((c, m) ∈ κ.mes) && supB v && (ap.endLine == p.line) && decide (l.length < 29) && chE κ sc o v && chEs κ sc es l | _ => false
  | .isi a ts, e => match e with
    | .Call (.Name f _) [x, .Name t _] [] _ => decide (f = "isinstance") && glB sc f && plB x && chE κ sc a x && tysB1 sc t ts
    | .Call (.Name f _) [x, .Tuple [.Name t _, .Name t' _] _ _] [] _ => decide (f = "isinstance") && glB sc f && plB x && chE κ sc a x && tysB2 sc t t' ts
    | _ => false
  | .bi b a, e => match e with | .Call (.Name f _) [x] [] _ => decide (f = biName b) && glB sc f && plB x && chE κ sc a x && (match b with | .max => false | .min => false | _ => true) | _ => false
  | .bl b, e => match e with | .Constant (.bool c) _ _ => b == c | _ => false
  | _, _ => false
def chP (κ : Kx) (sc : Scope) : P → Expr → Bool
  | .disp es, e => match e with | .List l _ => chEs κ sc es l | _ => false
  | .cat a b, e => match e with | .BinOp l .Add r _ => chE κ sc a l && chE κ sc b r | _ => false
  | .rep a b, e => match e with | .BinOp l .Mult r _ => chE κ sc a l && chE κ sc b r | _ => false
  | .slc a lo hi, e => match e with | .Subscript x (.Slice l h none _) _ => chE κ sc a x && chO κ sc lo l && chO κ sc hi h | _ => false
  | .rev a, e => match e with | .Subscript x (.Slice none none (some (.UnaryOp .USub (.Constant (.int i) _ _) _)) _) _ => decide (i = 1) && chE κ sc a x | _ => false
  | .list a, e => match e with | .Call (.Name f _) [x] [] _ => decide (f = "list") && glB sc f && plB x && chE κ sc a x | _ => false
  | .sorted _, _ => false
  | .comp own p it elt, e => match e with
    | .ListComp el [⟨tg, iter, [], 0⟩] scope _ => blkC κ.N sc scope (ownN κ.N own) && chPt κ scope p tg && decide (∀ i ∈ p.slots, i ∈ own) && nsetB iter && chI κ sc it tg iter && chE κ (relS scope sc) elt el
    | _ => false
  | .compif own p it c elt, e => match e with
    | .ListComp el [⟨tg, iter, [t], 0⟩] scope _ => blkC κ.N sc scope (ownN κ.N own) && chPt κ scope p tg && decide (∀ i ∈ p.slots, i ∈ own) && nsetB iter && chI κ sc it tg iter && chT κ (relS scope sc) c t && chE κ (relS scope sc) elt el
    | _ => false
def chO (κ : Kx) (sc : Scope) : Bd → Option Expr → Bool
  | .no, none => true
  | .at e, some x => chE κ sc e x
  | _, _ => false
def chEs (κ : Kx) (sc : Scope) : Es → List Expr → Bool
  | .nil, l => match l with | [] => true | _ => false
  | .cons e es, l => match l with | x :: xs => plB x && chE κ sc e x && chEs κ sc es xs | _ => false
def chTs (κ : Kx) (sc : Scope) : Es → List Expr → Bool
  | .nil, l => match l with | [] => true | _ => false
  | .cons e es, l => match l with | x :: xs => chT κ sc e x && chTs κ sc es xs | _ => false
def chI (κ : Kx) (sc : Scope) : It → Expr → Expr → Bool
  | .of a, _, e => chE κ sc a e
  | .range1 a, _, e => match e with | .Call (.Name f _) [x] [] _ => decide (f = "range") && glB sc f && plB x && chE κ sc a x | _ => false
  | .range2 a b, _, e => match e with | .Call (.Name f _) [x, y] [] _ => decide (f = "range") && glB sc f && plB x && plB y && chE κ sc a x && chE κ sc b y | _ => false
  | .zip a b, tg, e => match tg, e with | .Tuple _ _ _, .Call (.Name f _) [x, y] [] _ => decide (f = "zip") && glB sc f && plB x && plB y && chE κ sc a x && chE κ sc b y | _, _ => false
  | .enum _, _, _ => false
  | .items _, _, _ => false
  | .keys _, _, _ => false
end
end G
/-! The checker is right: expressions. -/
namespace G
open PySem PySem.Spec PyProof.Rows L2 C8
abbrev X0 : XPost := fun _ _ _ => False
/-- what is known of the program and of the context -/
structure Fx (Γ : Ctx) (W : Wd) (X : Cx) : Prop where
  K : X.K = W.K
  w : X.w = W.w
  calm : X.calm = true
  room : X.A.units + 100 < cLine
  bn : ∀ x ∈ bnames, X.mg x = none
  gl : ∀ x d, Γ.gl x = some d → ∃ v u, X.mg x = some u ∧ RelV v u ∧ ∀ B st H, Rep W B st H v d
  fn : ∀ f sp, Γ.fn f = some sp → ∃ k, Cal X.prog X.w X.K X.mg X.base k f (LS W sp) [] ∧ Room k X.A
  cf : ∀ c f C, Γ.cf c f = true → W.cls c = some C → Cls X.K C ∧ NoAttr X.K C f
  me : ∀ c m sp, Γ.me c m = some sp → m ≠ "__init__" → ∃ C k, W.cls c = some C ∧ Met X.prog X.w X.K X.mg X.base k C m (LS W sp) [] ∧ Room k X.A
  nw : ∀ c sp, Γ.me c "__init__" = some sp → ∃ C k, W.cls c = some C ∧ Mak X.prog X.w X.K X.mg X.base k c C (LS W sp) [] ∧ Room (k + 1) X.A
structure Okk (Γ : Ctx) (W : Wd) (κ : Kx) (sc : Scope) (X : Cx) : Prop where
  hN : X.N = κ.N
  hsc : X.env.scope = sc
  nd : κ.N.Nodup
  fns : ∀ f ∈ κ.fns, ∃ sp, Γ.fn f = some sp
  mes : ∀ c m, (c, m) ∈ κ.mes → ∃ sp, Γ.me c m = some sp
  fx : Fx Γ W X
theorem Fx.blk {Γ : Ctx} {W : Wd} {X : Cx} (h : Fx Γ W X) (s : Shared) (H : Hp) (scope : Scope) (ce : PySem.Env) (fp : List Addr) : Fx Γ W (X.blk s H scope ce fp) :=
  ⟨h.K, h.w, h.calm, h.room, h.bn, h.gl, h.fn, h.cf, h.me, h.nw⟩
theorem Okk.blk {Γ : Ctx} {W : Wd} {κ : Kx} {sc : Scope} {X : Cx} (h : Okk Γ W κ sc X) (s : Shared) (H : Hp) (scope : Scope) (C : Addr) (cl : List (Str × Addr)) (fp : List Addr) : Okk Γ W κ (relS scope sc) (X.blk s H scope (compEnvC scope cl C X.env) fp) :=
  ⟨h.hN, by show relS scope X.env.scope = relS scope sc; rw [h.hsc], h.nd, h.fns, h.mes, h.fx.blk ..⟩
section
variable {Γ : Ctx} {W : Wd} {κ : Kx} {sc : Scope} {X : Cx}
theorem Okk.gl (ok : Okk Γ W κ sc X) {x : Str} (h : glB sc x = true) : Gl X x := by
  show X.env.scope.names.lookup x = _
  rw [ok.hsc]; exact gl_of h
theorem Okk.vis (ok : Okk Γ W κ sc X) {x : Str} (h : visB sc x = true) : Vis X.env.scope x := by rw [ok.hsc]; exact vis_of h
theorem Okk.ix (ok : Okk Γ W κ sc X) {i : Nat} {x : Str} (h : nmB κ i x = true) : X.N[i]? = some x := by rw [ok.hN]; exact of_decide_eq_true h
theorem Okk.bn (ok : Okk Γ W κ sc X) {x : Str} (h : x ∈ bnames := by decide +kernel) : X.mg x = none := ok.fx.bn x h
theorem Okk.ndX (ok : Okk Γ W κ sc X) : X.N.Nodup := by rw [ok.hN]; exact ok.nd
theorem Okk.hu (ok : Okk Γ W κ sc X) : X.A.units + 64 < cLine := by have := ok.fx.room; omega
/-- targets of a block's own names -/
theorem lookS {sc : Scope} : ∀ {names : List (Str × NameKind)} {x : Str}, (names.lookup x = some .local ∨ names.lookup x = some .cell) →
    ((names.map fun (n, k) => if (k == NameKind.free && sc.kind == .function && sc.names.lookup n == some .cell) then (n, NameKind.cell) else (n, k)).lookup x = names.lookup x) := by
  intro names x h
  rcases h with h | h <;> rw [h] <;> exact lookup_relS_keep (by decide) h
mutual
theorem soPtB (ok : Okk Γ W κ sc X) (s : Shared) (H : Hp) (scope : Scope) (C : Addr) (cl : List (Str × Addr)) (fp : List Addr) : ∀ (p : Pt) (e : Expr), chPt κ scope p e = true → PG (X.blk s H scope (compEnvC scope cl C X.env) fp) e (LG W p)
  | .var i, e, h => by
    cases e <;> simp only [chPt, Bool.false_eq_true] at h
    rename_i x p
    rw [Bool.and_eq_true] at h
    have l := loc_of h.2
    have l2 : Loc (relS scope X.env.scope) x := by
      have e := lookS (sc := X.env.scope) l
      rcases l with l | l
      · exact .inl (e.trans l)
      · exact .inr (e.trans l)
    refine g_var (X := X.blk s H scope (compEnvC scope cl C X.env) fp) ok.ndX (ok.ix h.1) l2 ?_
    rcases l with l | l
    · exact .inr ((lookS (sc := X.env.scope) (.inl l)).trans l)
    · refine .inl ?_
      show (scope.names.lookup x == some .cell) = true
      rw [l]; rfl
  | .tup ps, e, h => by
    cases e <;> simp only [chPt, Bool.false_eq_true] at h
    obtain ⟨g, hl, hn⟩ := soPtsB ok s H scope C cl fp ps _ h
    exact g_tup (X := X.blk s H scope (compEnvC scope cl C X.env) fp) ok.fx.K ok.fx.calm g (fun ds ρ P q => (asgs_len ps ds ρ P q).trans hl.symm) hn.1 hn.2
theorem soPtsB (ok : Okk Γ W κ sc X) (s : Shared) (H : Hp) (scope : Scope) (C : Addr) (cl : List (Str × Addr)) (fp : List Addr) : ∀ (p : Pts) (es : List Expr), chPts κ scope p es = true →
    PGs (X.blk s H scope (compEnvC scope cl C X.env) fp) es (LGs W p) ∧ es.length = p.len ∧ (assignEach es (X.blk s H scope (compEnvC scope cl C X.env) fp).env).length = es.length ∧ (assignEach es (X.blk s H scope (compEnvC scope cl C X.env) fp).env).findIdx? (·.1) = none
  | .nil, es, h => by
    cases es with
    | nil => exact ⟨g_nil, rfl, rfl, rfl⟩
    | cons _ _ => simp [chPts] at h
  | .cons p ps, es, h => by
    cases es with
    | nil => simp [chPts] at h
    | cons e es =>
      simp only [chPts, Bool.and_eq_true] at h
      obtain ⟨⟨h1, h2⟩, h3⟩ := h
      have g1 := soPtB ok s H scope C cl fp p e h2
      obtain ⟨g2, l2, n2, f2⟩ := soPtsB ok s H scope C cl fp ps es h3
      have ea : assignEach (e :: es) (X.blk s H scope (compEnvC scope cl C X.env) fp).env = (false, assign e (X.blk s H scope (compEnvC scope cl C X.env) fp).env) :: assignEach es (X.blk s H scope (compEnvC scope cl C X.env) fp).env := by
        cases e <;> first | rfl | cases h1
      refine ⟨g_cons g1 g2 (by rw [ea]; rfl), by simp [Pts.len, l2], by rw [ea]; simp [n2], ?_⟩
      rw [ea, List.findIdx?_cons]
      simp [f2]
end
end
end G
/-! t[::-1]; True + 1. -/
namespace G
open PySem PySem.Spec PyProof.Rows L2
section
open HT
variable {prog : Program} {w : World} {A : Around} {E : Value → Shared → Prop} {s : Shared}
theorem adjust_rev (n : Nat) : Builtin.Slice.sliceAdjust none none (-1) (n : Int) = ((n : Int) - 1, -1) := by
  unfold Builtin.Slice.sliceAdjust
  rfl
theorem places_rev (n : Nat) : Builtin.Slice.slicePlaces ((n : Int) - 1) (-1) (-1) = n := by
  unfold Builtin.Slice.slicePlaces
  have h1 : ¬ (-1 : Int) > 0 := by omega
  simp only [h1, if_false]
  rw [show (- -1 : Int) = 1 by decide, Int.ediv_one]
  split <;> omega
theorem sliceApplied_rev {sl : Addr} {vs : Value} {n : Nat} {Q : Int × Int × Nat → Shared → Prop} (hs : s.heap.IsSliceOf sl .none .none vs) (ps : IsPart vs (some (-1)))
    (h : Q (((n : Int) - 1), -1, n) s) : wpAny (model prog w) A (Builtin.Slice.sliceApplied (.ref sl) (pure (n : Int))) Q E s := by
  obtain ⟨os, hos, hcs, hds⟩ := id hs
  unfold Builtin.Slice.sliceApplied Builtin.Slice.sliceFields
  refine wpAny_bind (wpAny_bind (wpAny_field hos hds (x := .none) rfl (wpAny_bind (wpAny_field hos hds (x := .none) rfl (wpAny_bind (wpAny_field hos hds (x := vs) rfl (wpAny_pure ?_)))))))
  refine wpAny_bind (slicePart_ ps ?_)
  show wpAny _ _ (if ((-1 : Int) == 0) = true then _ else _) _ _ s
  rw [if_neg (by decide)]
  refine wpAny_bind (slicePart_none (wpAny_bind (slicePart_none (wpAny_bind (wpAny_pure ?_)))))
  show wpAny _ _ (match Builtin.Slice.sliceAdjust none none (-1) (n : Int) with | (lo, hi) => pure (lo, (-1 : Int), Builtin.Slice.slicePlaces lo hi (-1))) _ _ s
  rw [adjust_rev n]
  show wpAny _ _ (pure ((n : Int) - 1, (-1 : Int), Builtin.Slice.slicePlaces ((n : Int) - 1) (-1) (-1))) _ _ s
  rw [places_rev]
  exact wpAny_pure h
theorem pick_rev (xs : Array Value) : ((List.range xs.size).filterMap fun (m : Nat) => xs[((xs.size : Int) - 1 + (m : Int) * -1).toNat]?).toArray = xs.toList.reverse.toArray := by
  rw [← PySem.W.krv_pick xs]
  unfold slicePick
  rw [PySem.W.krv_bounds]
  show _ = ((sliceRange ((xs.size : Int) - 1) (-1) (-1)).filterMap (xs[·]?)).toArray
  rw [PySem.W.krv_sliceRange, List.filterMap_map]
  have e : (fun (m : Nat) => xs[((xs.size : Int) - 1 + (m : Int) * -1).toNat]?) = ((fun x => xs[x]?) ∘ fun m => xs.size - 1 - m) := by
    funext m
    have e : ((xs.size : Int) - 1 + (m : Int) * -1).toNat = xs.size - 1 - m := by omega
    simp only [Function.comp, e]
  rw [e]
theorem getItem_tuple_rev {t sl : Addr} {items : Array Value} {vs : Value} {Q : Value → Shared → Prop} (ht : IsTup s.heap t items) (hs : s.heap.IsSliceOf sl .none .none vs) (ps : IsPart vs (some (-1)))
    (h : Q (.ref s.heap.objs.size) { s with heap := s.heap.push { cls := .type "tuple", data := .seq items.toList.reverse.toArray } })
    (hsz : items.size ≤ sizeLine) : wpAny (model prog w) A (getItem (.ref t) (.ref sl)) Q E s := by
  have htake : sizeOk (.seq items.toList.reverse.toArray) := by
    show items.toList.reverse.toArray.size ≤ sizeLine
    rw [List.size_toArray, List.length_reverse, Array.length_toList]
    omega
  obtain ⟨os, hos, hcs, hds⟩ := id hs
  have hTs : s.TypeIs (.ref sl) "slice" := ⟨os, hos, hcs⟩
  unfold getItem
  try with_reducible refine wpAny_holding ?_
  first | refine wpAny_bind (wpAny_pure ?_) | skip
  refine wpAny_bind (wpAny_sequenceKey ht.typeIs (by decide) (wpAny_bind (wpAny_callSpecial?_slot (name := Str.ofString "__getitem__") ht.typeIs PyProof.Rows.slot_tuple_getitem (wpAny_call_entry PyProof.Rows.slot_tuple_getitem ht.typeIs entry_tuple_getitem ?_ (args_tuple_getitem _ _)))))
  show wpAny _ _ (Builtin.Tuple.tupleItemsOf (.ref t) >>= _) _ _ s; refine wpAny_bind (tupleItemsOf_ ht (wpAny_bind (wpAny_typeOf hTs ?_)))
  rw [if_pos (by decide)]; refine wpAny_bind (sliceApplied_rev hs ps ?_)
  have hno : ¬ ((((items.size : Int) - 1 == 0) && ((-1 : Int) == 1) && (items.size == items.size)) = true) := by
    intro q
    rw [Bool.and_eq_true, Bool.and_eq_true] at q
    exact absurd q.1.2 (by decide)
  show wpAny _ _ (if (((items.size : Int) - 1 == 0) && ((-1 : Int) == 1) && (items.size == items.size)) = true then _ else _) _ _ s
  rw [if_neg hno, pick_rev]
  first
    | exact wpAny_bind (m := Builtin.Tuple.tupleExact _) (wpAny_newObj_type (wpAny_pure ⟨_, rfl, wpAny_pure h⟩) htake)
    | exact wpAny_bind (m := Builtin.Tuple.tupleExact _) (wpAny_newObj_type (wpAny_bind (wpAny_pure (wpAny_pure ⟨_, rfl, wpAny_pure h⟩))) htake)
    | exact wpAny_bind (wpAny_bind (m := Builtin.Tuple.tupleExact _) (wpAny_newObj_type (wpAny_pure (wpAny_pure ⟨_, rfl, wpAny_pure h⟩)) htake))
    | exact wpAny_bind (wpAny_bind (m := Builtin.Tuple.tupleExact _) (wpAny_newObj_type (wpAny_pure ⟨_, rfl, wpAny_pure h⟩) htake))
end
section
variable {X : Cx} {W : Wd} {pos : Pos}
def tRevT (K : PySem.W.Frag) (te : TE) : TE := fun σ H Q => te σ H fun x H1 => ∃ a xs, x = .ref a ∧ SqT K H1 a xs ∧ ∀ p, H1 p = none → Q (.ref p) (upd H1 p (.tup xs.reverse))
theorem pe_revT {e : Expr} {te : TE} {k : Nat} {p1 p2 p3 pos : Pos} (he : PE X e te) : PE X (.Subscript e (.Slice none none (some (.UnaryOp .USub (.Constant (.int 1) k p1) p2)) p3) pos) (tRevT X.K te) := by
  refine ⟨fun pins s σ H Q I h => ?_⟩
  refine Subscript_ (thn (he.run pins s σ H _ I h) fun v s1 ⟨x, H1, I1, r1, q1⟩ => ?_)
  obtain ⟨a, xs, ex, hx, q⟩ := q1
  subst ex
  cases r1
  have hst : PO X (some (.UnaryOp .USub (.Constant (.int 1) k p1) p2)) (tPart (tUn (rU fun i => .int (-i)) (tC (.int 1)))) := po_some (pe_un un_neg pe_int)
  have none1 : ∀ (s1 : Shared) (K1 : Hp), Inv X pins σ K1 s1 → wpAny (model X.prog X.w) X.A (evalPart none X.env) (fun u s' => s' = s1 ∧ u = .none) X.xe s1 := fun s1 K1 I1 => by
    rw [evalPart_none]; exact wpAny_pure ⟨rfl, rfl⟩
  refine wpAny_Slice (thn (none1 s1 H1 I1) fun vl s2 ⟨es2, el⟩ => thn (none1 s2 H1 (es2 ▸ I1)) fun vu s3 ⟨es3, eu⟩ => ?_)
  subst es2 el es3 eu
  refine thn (hst.run pins _ σ H1 (fun b H4 => b = some (-1) ∧ H4 = H1) I1 ⟨1, rfl, -1, rfl, rfl, rfl⟩) fun vs s4 ⟨_, H4, I4, ps, eb, eh⟩ => ?_
  subst eb eh
  have IS : Inv X pins σ H4 { s4 with heap := s4.heap.push { cls := .type "slice", data := .fields #[.none, .none, vs] } } := I4.kept (t' := s4.toks) fun b ob q => Heap.get?_push_of_some _ q
  obtain ⟨its, r, ht, hz⟩ := IS.tuple hx
  have hlen := r.length
  show wpAny (model X.prog X.w) X.A (subscriptTail e (.Slice none none (some (.UnaryOp .USub (.Constant (.int 1) k p1) p2)) p3) (.ref a) (.ref s4.heap.objs.size)) (EP X pins σ Q) X.xe ({ s4 with heap := s4.heap.push { cls := .type "slice", data := .fields #[.none, .none, vs] } } : Shared)
  refine tail_any (ops := [.ref a, .ref s4.heap.objs.size]) ht.typeIs (PyProof.Rows.slot_tuple_getitem.lookup) ?_ (by with_unfolding_all rfl)
  refine getItem_tuple_rev (show IsTup _ a its.toArray from ht) (Heap.IsSliceOf.new _ .none .none vs) ps ?_ (by rw [List.size_toArray]; omega)
  refine ⟨.ref _, _, IS.laid (t' := s4.toks) (o := .tup xs.reverse) (fun b ob q => Heap.get?_push_of_some _ q) (Nat.le_refl _) ?_, rfl, q _ (IS.hok.fresh (Nat.le_refl _))⟩
  exact ⟨by rw [List.length_reverse]; exact hz, _, r.reverse, IsTup.new _ _⟩
theorem s_rev {a : Expr} {k : Nat} {p1 p2 p3 : Pos} {ma : M} (hK : X.K = W.K) (ha : PE X a (LE W ma)) :
    PE X (.Subscript a (.Slice none none (some (.UnaryOp .USub (.Constant (.int 1) k p1) p2)) p3) pos) (LE W fun ρ st Q => ma ρ st fun x st1 => revR x fun r => Q r st1) := by
  refine (pe_revT ha).mono fun σ H Q ⟨B, ρ, st, P, r, h, q⟩ => ?_
  refine ⟨B, ρ, st, _, r, h, fun d1 st1 v1 H1 h1 r1 o1 g1 => ?_⟩
  unfold revR at h1
  split at h1
  · cases r1 with
    | tup f l => exact ⟨_, _, rfl, by rw [hK]; exact f.sq, fun p hp => q _ _ _ _ h1 (Rep.newTup o1 hp l.rev) (o1.same (same_upd hp)) (g1.trans (Grow.same (same_upd hp)))⟩
  · exact h1.elim
end
end G
/-! Dicts with nested keys. -/
namespace G
open PySem PySem.Spec PyProof.Rows L2
/-! ### keys -/
mutual
theorem eqv_nk : ∀ (a b : D) (x y : NestedKey), nk a = some x → nk b = some y → a.eqv b = NestedKey.beq x y
  | .non, .non, _, _, h, h' => by cases h; cases h'; rfl
  | .non, .bl _, _, _, h, h' => by cases h; cases h'; rfl
  | .non, .int _, _, _, h, h' => by cases h; cases h'; rfl
  | .non, .str _, _, _, h, h' => by cases h; cases h'; rfl
  | .non, .tup _, _, _, h, h' => by cases h; simp only [nk, Option.map_eq_some_iff] at h'; obtain ⟨_, _, rfl⟩ := h'; rfl
  | .bl _, .non, _, _, h, h' => by cases h; cases h'; rfl
  | .bl a, .bl b, _, _, h, h' => by cases h; cases h'; cases a <;> cases b <;> rfl
  | .bl a, .int b, _, _, h, h' => by cases h; cases h'; rfl
  | .bl _, .str _, _, _, h, h' => by cases h; cases h'; rfl
  | .bl _, .tup _, _, _, h, h' => by cases h; simp only [nk, Option.map_eq_some_iff] at h'; obtain ⟨_, _, rfl⟩ := h'; rfl
  | .int _, .non, _, _, h, h' => by cases h; cases h'; rfl
  | .int a, .bl b, _, _, h, h' => by cases h; cases h'; rfl
  | .int a, .int b, _, _, h, h' => by cases h; cases h'; rfl
  | .int _, .str _, _, _, h, h' => by cases h; cases h'; rfl
  | .int _, .tup _, _, _, h, h' => by cases h; simp only [nk, Option.map_eq_some_iff] at h'; obtain ⟨_, _, rfl⟩ := h'; rfl
  | .str _, .non, _, _, h, h' => by cases h; cases h'; rfl
  | .str _, .bl _, _, _, h, h' => by cases h; cases h'; rfl
  | .str _, .int _, _, _, h, h' => by cases h; cases h'; rfl
  | .str _, .str _, _, _, h, h' => by cases h; cases h'; rfl
  | .str _, .tup _, _, _, h, h' => by cases h; simp only [nk, Option.map_eq_some_iff] at h'; obtain ⟨_, _, rfl⟩ := h'; rfl
  | .tup _, .non, _, _, h, h' => by cases h'; simp only [nk, Option.map_eq_some_iff] at h; obtain ⟨_, _, rfl⟩ := h; rfl
  | .tup _, .bl _, _, _, h, h' => by cases h'; simp only [nk, Option.map_eq_some_iff] at h; obtain ⟨_, _, rfl⟩ := h; rfl
  | .tup _, .int _, _, _, h, h' => by cases h'; simp only [nk, Option.map_eq_some_iff] at h; obtain ⟨_, _, rfl⟩ := h; rfl
  | .tup _, .str _, _, _, h, h' => by cases h'; simp only [nk, Option.map_eq_some_iff] at h; obtain ⟨_, _, rfl⟩ := h; rfl
  | .tup a, .tup b, _, _, h, h' => by
    simp only [nk, Option.map_eq_some_iff] at h h'
    obtain ⟨x, hx, rfl⟩ := h
    obtain ⟨y, hy, rfl⟩ := h'
    rw [D.eqv, NestedKey.beq, eqvs_nk a b x y hx hy]
  | .lst _, _, _, _, h, _ => by cases h
  | .dct _, _, _, _, h, _ => by cases h
  | .ins _ _, _, _, _, h, _ => by cases h
  | .loc _, _, _, _, h, _ => by cases h
  | .clo _, _, _, _, h, _ => by cases h
  | .ro _, _, _, _, h, _ => by cases h
  | .non, .lst _, _, _, _, h => by cases h
  | .non, .dct _, _, _, _, h => by cases h
  | .non, .ins _ _, _, _, _, h => by cases h
  | .non, .loc _, _, _, _, h => by cases h
  | .non, .clo _, _, _, _, h => by cases h
  | .non, .ro _, _, _, _, h => by cases h
  | .bl _, .lst _, _, _, _, h => by cases h
  | .bl _, .dct _, _, _, _, h => by cases h
  | .bl _, .ins _ _, _, _, _, h => by cases h
  | .bl _, .loc _, _, _, _, h => by cases h
  | .bl _, .clo _, _, _, _, h => by cases h
  | .bl _, .ro _, _, _, _, h => by cases h
  | .int _, .lst _, _, _, _, h => by cases h
  | .int _, .dct _, _, _, _, h => by cases h
  | .int _, .ins _ _, _, _, _, h => by cases h
  | .int _, .loc _, _, _, _, h => by cases h
  | .int _, .clo _, _, _, _, h => by cases h
  | .int _, .ro _, _, _, _, h => by cases h
  | .str _, .lst _, _, _, _, h => by cases h
  | .str _, .dct _, _, _, _, h => by cases h
  | .str _, .ins _ _, _, _, _, h => by cases h
  | .str _, .loc _, _, _, _, h => by cases h
  | .str _, .clo _, _, _, _, h => by cases h
  | .str _, .ro _, _, _, _, h => by cases h
  | .tup _, .lst _, _, _, _, h => by cases h
  | .tup _, .dct _, _, _, _, h => by cases h
  | .tup _, .ins _ _, _, _, _, h => by cases h
  | .tup _, .loc _, _, _, _, h => by cases h
  | .tup _, .clo _, _, _, _, h => by cases h
  | .tup _, .ro _, _, _, _, h => by cases h
theorem eqvs_nk : ∀ (a b : List D) (x y : List NestedKey), nks a = some x → nks b = some y → D.eqvs a b = NestedKey.beqAll x y
  | [], [], _, _, h, h' => by cases h; cases h'; rfl
  | [], b :: bs, _, _, h, h' => by
    cases h
    unfold nks at h'
    split at h' <;> cases h'
    rfl
  | a :: as, [], _, _, h, h' => by
    cases h'
    unfold nks at h
    split at h <;> cases h
    rfl
  | a :: as, b :: bs, _, _, h, h' => by
    unfold nks at h h'
    split at h
    · rename_i x xs e1 e2
      cases h
      split at h'
      · rename_i y ys e3 e4
        cases h'
        rw [D.eqvs, NestedKey.beqAll, eqv_nk a b x y e1 e3, eqvs_nk as bs xs ys e2 e4]
      · cases h'
    · cases h
end
mutual
theorem nk_some : ∀ (d : D), d.hashB = true → ∃ k, nk d = some k
  | .non, _ => ⟨_, rfl⟩
  | .bl _, _ => ⟨_, rfl⟩
  | .int _, _ => ⟨_, rfl⟩
  | .str _, _ => ⟨_, rfl⟩
  | .tup xs, h => by
    obtain ⟨ks, e⟩ := nks_some xs (by simpa [D.hashB] using h)
    exact ⟨.tup ks, by simp [nk, e]⟩
  | .lst _, h => by simp [D.hashB] at h
  | .dct _, h => by simp [D.hashB] at h
  | .ins _ _, h => by simp [D.hashB] at h
  | .loc _, h => by simp [D.hashB] at h
  | .clo _, h => by simp [D.hashB] at h
  | .ro _, h => by simp [D.hashB] at h
theorem nks_some : ∀ (d : List D), D.hashBs d = true → ∃ k, nks d = some k
  | [], _ => ⟨_, rfl⟩
  | x :: xs, h => by
    simp only [D.hashBs, Bool.and_eq_true] at h
    obtain ⟨a, e1⟩ := nk_some x h.1
    obtain ⟨b, e2⟩ := nks_some xs h.2
    exact ⟨_, by unfold nks; rw [e1, e2]⟩
end
mutual
theorem nk_dep : ∀ (d : D) (n : Nat) (k : NestedKey), d.dat n = true → nk d = some k → k.depth ≤ n
  | .non, n, _, _, h => by cases h; exact Nat.zero_le _
  | .bl _, n, _, _, h => by cases h; exact Nat.zero_le _
  | .int _, n, _, _, h => by cases h; exact Nat.zero_le _
  | .str _, n, _, _, h => by cases h; exact Nat.zero_le _
  | .tup xs, n, _, hd, h => by
    simp only [nk, Option.map_eq_some_iff] at h
    obtain ⟨x, hx, rfl⟩ := h
    unfold D.dat at hd
    cases n with
    | zero => cases hd
    | succ n =>
      have := nks_dep xs n x hd hx
      show NestedKey.depthAll x + 1 ≤ n + 1
      omega
  | .lst _, _, _, _, h => by cases h
  | .dct _, _, _, _, h => by cases h
  | .ins _ _, _, _, _, h => by cases h
  | .loc _, _, _, _, h => by cases h
  | .clo _, _, _, _, h => by cases h
  | .ro _, _, _, _, h => by cases h
theorem nks_dep : ∀ (d : List D) (n : Nat) (k : List NestedKey), D.dats n d = true → nks d = some k → NestedKey.depthAll k ≤ n
  | [], n, _, _, h => by cases h; exact Nat.zero_le _
  | x :: xs, n, _, hd, h => by
    unfold nks at h
    split at h
    · rename_i a as e1 e2
      cases h
      unfold D.dats at hd
      rw [Bool.and_eq_true] at hd
      have := nk_dep x n a hd.1 e1
      have := nks_dep xs n as hd.2 e2
      show max a.depth (NestedKey.depthAll as) ≤ n
      omega
    · cases h
end
section
variable {X : Cx} {W : Wd} {pins : List (Addr × Obj)} {s : Shared} {σ : L2.St} {H : Hp} {B : Addr → Prop} {st : Store}
mutual
theorem nis (hK : X.K = W.K) (I : Inv X pins σ H s) : ∀ (d : D) {v : V} {u : Value} {k : NestedKey}, Rep W B st H v d → RelV v u → nk d = some k → NestedIs s.heap k u
  | .non, v, u, k, r, e, h => by cases r; cases h; cases (show u = Value.none from e); exact .none
  | .bl b, v, u, k, r, e, h => by cases r; cases h; cases (show u = Value.bool b from e); exact .bool rfl
  | .int i, v, u, k, r, e, h => by cases r; cases h; obtain ⟨t, rfl⟩ := e; exact .int _ _
  | .str x, v, u, k, r, e, h => by cases r; cases h; obtain ⟨t, rfl⟩ := e; exact .text _ _
  | .tup xs, v, u, k, r, e, h => by
    simp only [nk, Option.map_eq_some_iff] at h
    obtain ⟨x, hx, rfl⟩ := h
    cases r with
    | tup f l =>
      cases (show u = Value.ref _ from e)
      obtain ⟨its, rr, ⟨o, ho, hc, n, hd⟩, hz⟩ := I.tuple (by rw [hK]; exact f.sq)
      exact .tup ho hc hd (nisl hK I xs l rr hx)
  | .lst _, _, _, _, _, _, h => by cases h
  | .dct _, _, _, _, _, _, h => by cases h
  | .ins _ _, _, _, _, _, _, h => by cases h
  | .loc _, _, _, _, _, _, h => by cases h
  | .clo _, _, _, _, _, _, h => by cases h
  | .ro _, _, _, _, _, _, h => by cases h
theorem nisl (hK : X.K = W.K) (I : Inv X pins σ H s) : ∀ (d : List D) {v : List V} {u : List Value} {k : List NestedKey}, RepL W B st H v d → Vals v u → nks d = some k → NestedAll s.heap k u
  | [], v, u, k, r, e, h => by cases r; cases e; cases h; exact .nil
  | x :: xs, v, u, k, r, e, h => by
    unfold nks at h
    split at h
    · rename_i a as e1 e2
      cases h
      cases r with
      | cons r rs =>
        cases e with
        | cons e es => exact .cons (nis hK I x r e e1) (nisl hK I xs rs es e2)
    · cases h
end
end
/-- the entries, by keys -/
inductive KL (W : Wd) (B : Addr → Prop) (st : Store) (H : Hp) : List (NestedKey × Addr × Value) → List (D × D) → Prop where
  | nil : KL W B st H [] []
  | cons {b : Addr} {u : Value} {v : V} {xs : List D} {d : D} {ks : List NestedKey} {l : List (NestedKey × Addr × Value)} {kvs : List (D × D)} : nks xs = some ks → (D.tup xs).dat 8 = true → Rep W B st H (.ref b) (.tup xs) → RelV v u → Rep W B st H v d → KL W B st H l kvs →
      KL W B st H ((.tup ks, b, u) :: l) ((.tup xs, d) :: kvs)
def entW (w : World) (x : NestedKey × Addr × Value) : DictEntry := ⟨x.1.hash w, .ref x.2.1, x.2.2⟩
section
variable {W : Wd} {B : Addr → Prop} {st : Store} {H : Hp}
theorem RepK.kl : ∀ {es : List DictEntry} {kvs : List (D × D)}, RepK W B st H es kvs → ∃ l, KL W B st H l kvs ∧ es = l.map (entW W.w)
  | _, _, .nil => ⟨[], .nil, rfl⟩
  | _, _, .cons a b c d e t => by
    obtain ⟨l, h, rfl⟩ := RepK.kl t
    exact ⟨_, .cons a b c d e h, rfl⟩
theorem KL.rk : ∀ {l : List (NestedKey × Addr × Value)} {kvs : List (D × D)}, KL W B st H l kvs → RepK W B st H (l.map (entW W.w)) kvs
  | _, _, .nil => .nil
  | _, _, .cons a b c d e t => .cons a b c d e (KL.rk t)
theorem KL.keys : ∀ {l : List (NestedKey × Addr × Value)} {kvs : List (D × D)}, KL W B st H l kvs → (kvs.map fun p => nk p.1) = l.map fun x => some x.1
  | _, _, .nil => rfl
  | _, _, .cons a b c d e t => by
    simp only [List.map_cons, KL.keys t, nk, a, Option.map_some]
theorem KL.length : ∀ {l : List (NestedKey × Addr × Value)} {kvs : List (D × D)}, KL W B st H l kvs → l.length = kvs.length
  | _, _, .nil => rfl
  | _, _, .cons a b c d e t => congrArg (· + 1) (KL.length t)
theorem KL.look {y : D} {k : NestedKey} (hk : nk y = some k) : ∀ {l : List (NestedKey × Addr × Value)} {kvs : List (D × D)}, KL W B st H l kvs →
    (atKey l k = none ∧ G.look kvs y = none) ∨ ∃ p d v, atKey l k = some p ∧ G.look kvs y = some d ∧ RelV v p.2 ∧ Rep W B st H v d
  | _, _, .nil => .inl ⟨rfl, rfl⟩
  | _, _, .cons (xs := xs) (ks := ks) (l := l) (kvs := kvs) (b := b) (u := u) (v := v) (d := d) h1 h2 h3 h4 h5 t => by
    have e : (D.tup xs).eqv y = NestedKey.beq (.tup ks) k := eqv_nk _ _ _ _ (by simp [nk, h1]) hk
    have e2 := NestedKey.decide_eq (.tup ks) k
    unfold atKey G.look
    rw [List.find?_cons, List.find?_cons]
    simp only [e, e2]
    cases q : NestedKey.beq (.tup ks) k with
    | true => exact .inr ⟨_, _, v, rfl, rfl, h4, h5⟩
    | false => exact KL.look hk t
theorem KL.map {y : D} {k : NestedKey} {v : V} {u : Value} {d : D} (hk : nk y = some k) (rv : RelV v u) (rd : Rep W B st H v d) : ∀ {l : List (NestedKey × Addr × Value)} {kvs : List (D × D)}, KL W B st H l kvs →
    KL W B st H (l.map (putAt k u)) (kvs.map fun p => if p.1.eqv y then (p.1, d) else p)
  | _, _, .nil => .nil
  | _, _, .cons (xs := xs) (ks := ks) (l := l) (kvs := kvs) h1 h2 h3 h4 h5 t => by
    have e : (D.tup xs).eqv y = NestedKey.beq (.tup ks) k := eqv_nk _ _ _ _ (by simp [nk, h1]) hk
    have e2 := NestedKey.decide_eq (.tup ks) k
    rw [List.map_cons, List.map_cons]
    simp only [e]
    unfold putAt
    cases q : NestedKey.beq (.tup ks) k with
    | true =>
      rw [q] at e2
      have := of_decide_eq_true e2
      simp only [this, if_true]
      subst this
      exact .cons h1 h2 h3 rv rd (KL.map hk rv rd t)
    | false =>
      rw [q] at e2
      have := of_decide_eq_false e2
      simp only [this, if_false, Bool.false_eq_true]
      exact .cons h1 h2 h3 h4 h5 (KL.map hk rv rd t)
theorem KL.app : ∀ {l l' : List (NestedKey × Addr × Value)} {kvs kvs' : List (D × D)}, KL W B st H l kvs → KL W B st H l' kvs' → KL W B st H (l ++ l') (kvs ++ kvs')
  | _, _, _, _, .nil, h => h
  | _, _, _, _, .cons a b c d e t, h => .cons a b c d e (KL.app t h)
theorem KL.put {y : D} {k : NestedKey} {a : Addr} {v : V} {u : Value} {d : D} {l : List (NestedKey × Addr × Value)} {kvs : List (D × D)} (h : KL W B st H l kvs) (hk : nk y = some k) (hy : isKey y = true) (ry : Rep W B st H (.ref a) y) (rv : RelV v u) (rd : Rep W B st H v d) :
    KL W B st H (storedH l k a u) (G.put kvs y d) := by
  unfold storedH G.put
  rcases KL.look hk h with ⟨h1, h2⟩ | ⟨p, d', v', h1, h2, _⟩
  · rw [h1, h2]
    simp only [Option.isSome_none, Bool.false_eq_true, if_false]
    unfold isKey at hy
    split at hy
    · simp only [nk, Option.map_eq_some_iff] at hk
      obtain ⟨ks, h3, rfl⟩ := hk
      rw [Bool.and_eq_true] at hy
      exact h.app (.cons h3 hy.1 ry rv rd .nil)
    · cases hy
  · rw [h1, h2]
    simp only [Option.isSome_some, if_true]
    exact KL.map hk rv rd h
theorem key_of {y : D} (hy : isKey y = true) : ∃ k, nk y = some k ∧ k.depth ≤ 8 := by
  unfold isKey at hy
  split at hy
  · rw [Bool.and_eq_true] at hy
    obtain ⟨k, e⟩ := nk_some _ hy.2
    exact ⟨k, e, nk_dep _ 8 k hy.1 e⟩
  · cases hy
theorem key_ref {y : D} {v : V} (hy : isKey y = true) (r : Rep W B st H v y) : ∃ a, v = .ref a := by
  cases r <;> first | exact ⟨_, rfl⟩ | cases hy
theorem dct_of {v : V} {d : D} {kvs : List (D × D)} (h : RH W B st H) (r : Rep W B st H v d) (e : dctOf st d = some kvs) : ∃ a es, v = .ref a ∧ H a = some (.ext (RawD a es)) ∧ (a == sysModules) = false ∧ RepK W B st H es kvs ∧ (kvs.map fun p => nk p.1).Nodup := by
  cases r with
  | dct z f s l n => cases e; exact ⟨_, _, rfl, f, s, l, n⟩
  | loc a =>
    obtain ⟨es, f, s, l, n⟩ := h.ob _ _ (dctOf_loc e)
    exact ⟨_, _, rfl, f, s, l, n⟩
  | _ => cases e
variable {X : Cx} {pins : List (Addr × Obj)} {s : Shared} {σ : L2.St}
theorem dat_nis (hK : X.K = W.K) (I : Inv X pins σ H s) {y : D} {a : Addr} {k : NestedKey} (hk : nk y = some k) (hd : k.depth ≤ 8) (r : Rep W B st H (.ref a) y) : (nestedKind X.prog X.w).is s.heap k a := ⟨nis hK I y r rfl hk, hd⟩
theorem KL.all (hK : X.K = W.K) (I : Inv X pins σ H s) : ∀ {l : List (NestedKey × Addr × Value)} {kvs : List (D × D)}, KL W B st H l kvs → ∀ x ∈ l, (nestedKind X.prog X.w).is s.heap x.1 x.2.1
  | _, _, .nil => fun _ h => by cases h
  | _, _, .cons (xs := xs) a b c d e t => fun x h => by
    rcases List.mem_cons.mp h with rfl | h
    · exact ⟨nis hK I _ c rfl (by simp [nk, a]), nk_dep _ 8 _ b (by simp [nk, a])⟩
    · exact KL.all hK I t x h
theorem nodup_some {α : Type} : ∀ {l : List (NestedKey × α)}, (l.map fun x => some x.1).Nodup → (l.map (·.1)).Nodup := by
  intro l h
  have e : (l.map fun x => some x.1) = (l.map (·.1)).map some := by rw [List.map_map]; rfl
  rw [e] at h
  exact List.Pairwise.of_map _ (fun a b hab hne => hab (congrArg some hne)) h
/-- the dict in the heap -/
theorem dict_raw (hK : X.K = W.K) (hw : X.w = W.w) (I : Inv X pins σ H s) {a : Addr} {l : List (NestedKey × Addr × Value)} {kvs : List (D × D)} (f : H a = some (.ext (RawD a (l.map (entW W.w))))) (h : KL W B st H l kvs) (n : (kvs.map fun p => nk p.1).Nodup) : s.heap.DictOfH (nestedKind X.prog X.w) a l := by
  obtain ⟨⟨o, ep, h1, h2, h3⟩, _⟩ := I.hok a _ f
  rw [KL.keys h] at n
  refine ⟨o, _, ep, h1, h2, h3, ?_, KL.all hK I h, nodup_some n⟩
  show l.map (entW W.w) = _
  rw [← hw]
  rfl
end
end G
/-! Dicts with nested keys: the rules. -/
namespace G
open PySem PySem.Spec PyProof.Rows L2
section
variable {X : Cx} {W : Wd} {pos : Pos}
theorem OpR.imp' {f : Value → Value → Sem Value} {r r' : R2} (h : OpR X f r) (i : ∀ x y H Q, r' x y H Q → r x y H Q) : OpR X f r' := fun pins s σ H x y v u Q I rx ry q => h pins s σ H x y v u Q I rx ry (i _ _ _ _ q)
theorem dkin {B : Addr → Prop} {st : Store} {H : Hp} {l : List (NestedKey × Addr × Value)} {kvs : List (D × D)} {y : D} {k : NestedKey} (h : KL W B st H l kvs) (hk : nk y = some k) : (valueAt (pairsH l) k).isSome = (G.look kvs y).isSome := by
  rw [valueAt_pairsH, Option.isSome_map]
  rcases KL.look hk h with ⟨h1, h2⟩ | ⟨p, d, v, h1, h2, _⟩ <;> rw [h1, h2] <;> rfl
theorem room9 (hu : X.A.units + 64 < cLine) : (nestedKind X.prog X.w).room X.A.in1 := by
  show X.A.units + 1 + 8 < cLine
  omega
theorem in_dct (hK : X.K = W.K) (hw : X.w = W.w) (hu : X.A.units + 64 < cLine) : OpR X (compareOp .In) (rC W fun st a b k => ∃ kvs, dctOf st b = some kvs ∧ isKey a = true ∧ k (G.look kvs a).isSome) := by
  intro pins s σ H x y v u Q I rx ry ⟨B, st, d1, d2, P, h, r1, r2, ⟨kvs, e, hy, k⟩, q⟩
  obtain ⟨a, rfl⟩ := key_ref hy r1
  obtain ⟨kk, hk, hd⟩ := key_of hy
  obtain ⟨b, es, rfl, f, hs, l, n⟩ := dct_of h r2 e
  cases (show v = Value.ref a from rx)
  cases (show u = Value.ref b from ry)
  obtain ⟨l', hl, rfl⟩ := l.kl
  refine in_keyed (knd := nestedKind X.prog X.w) (room9 hu) (dat_nis hK I hk hd r1) hs ⟨l', dict_raw hK hw I f hl n, rfl⟩ ?_
  rw [dkin hl hk]
  exact ⟨.bl _, H, I.tok _, rfl, q _ k⟩
theorem notin_dct (hK : X.K = W.K) (hw : X.w = W.w) (hu : X.A.units + 64 < cLine) : OpR X (compareOp .NotIn) (rC W fun st a b k => ∃ kvs, dctOf st b = some kvs ∧ isKey a = true ∧ k (!(G.look kvs a).isSome)) := by
  intro pins s σ H x y v u Q I rx ry ⟨B, st, d1, d2, P, h, r1, r2, ⟨kvs, e, hy, k⟩, q⟩
  obtain ⟨a, rfl⟩ := key_ref hy r1
  obtain ⟨kk, hk, hd⟩ := key_of hy
  obtain ⟨b, es, rfl, f, hs, l, n⟩ := dct_of h r2 e
  cases (show v = Value.ref a from rx)
  cases (show u = Value.ref b from ry)
  obtain ⟨l', hl, rfl⟩ := l.kl
  refine notIn_keyed (knd := nestedKind X.prog X.w) (room9 hu) (dat_nis hK I hk hd r1) hs ⟨l', dict_raw hK hw I f hl n, rfl⟩ ?_
  rw [dkin hl hk]
  exact ⟨.bl _, H, I.tok _, rfl, q _ k⟩
theorem ix_dct (hK : X.K = W.K) (hw : X.w = W.w) (hu : X.A.units + 64 < cLine) : IxR X (r2 W fun st a i k => ∃ kvs d, dctOf st a = some kvs ∧ isKey i = true ∧ G.look kvs i = some d ∧ k d) := by
  intro value slice pins s σ H x y v u Q I rx ry ⟨B, st, d1, d2, P, h, r1, r2, ⟨kvs, d, e, hy, hlk, k⟩, q⟩ hs'
  obtain ⟨a, rfl⟩ := key_ref hy r2
  obtain ⟨kk, hk, hd⟩ := key_of hy
  obtain ⟨b, es, rfl, f, hs, l, n⟩ := dct_of h r1 e
  cases (show u = Value.ref a from ry)
  cases (show v = Value.ref b from rx)
  obtain ⟨l', hl, rfl⟩ := l.kl
  have hm := dict_raw hK hw I f hl n
  rcases KL.look hk hl with ⟨h1, h2⟩ | ⟨p, d', v', h1, h2, h3, h4⟩
  · rw [h2] at hlk; cases hlk
  · rw [h2] at hlk; cases hlk
    refine tail_any (ops := [.ref b, .ref a]) hm.typeIs (F.slot_dict_getitem.lookup) ?_ hs'
    exact wpAny_getItem_heap (knd := nestedKind X.prog X.w) (room9 hu) (dat_nis hK I hk hd r2) hm h1 ⟨v', H, I.tok _, h3, q _ _ _ k h4 (Same.refl _)⟩
theorem len_dct (hK : X.K = W.K) (hw : X.w = W.w) : CallR X (.builtin "len") (rB W fun st a k => ∃ kvs, dctOf st a = some kvs ∧ kvs.length ≤ sizeLine ∧ k (.int kvs.length)) := by
  intro pins s σ H xs us Q I r ⟨B, st, v, d, P, e0, h, r1, ⟨kvs, e, hz, k⟩, q⟩
  subst e0
  obtain ⟨u, rfl, rx⟩ := vals1 r
  obtain ⟨b, es, rfl, f, hs, l, n⟩ := dct_of h r1 e
  cases (show u = Value.ref b from rx)
  obtain ⟨l', hl, rfl⟩ := l.kl
  have hm := dict_raw hK hw I f hl n
  refine call_len_dictH (knd := nestedKind X.prog X.w) hs hm (by rw [hl.length]; rw [sizeLine_eq] at hz; omega) ?_
  rw [hl.length]
  exact ⟨.int _, H, I.tok _, ⟨_, rfl⟩, q _ _ _ k (.int _) (Same.refl _)⟩
/-- the dict in the heap is told -/
theorem ext_ok {H : Hp} {h : Heap} {a : Addr} {l : List (NestedKey × Addr × Value)} (hw : X.w = W.w) (hm : h.DictOfH (nestedKind X.prog X.w) a l) : ObjOk X.prog X.w H h a (.ext (RawD a (l.map (entW W.w)))) := by
  obtain ⟨o, es, ep, h1, h2, h3, h4, h5, h6⟩ := hm
  refine ⟨⟨o, ep, h1, h2, ?_⟩, ⟨o, h1⟩, fun h1' h2' ⟨o', ep', z1, z2, z3⟩ k => ⟨o', ep', k _ z1, z2, z3⟩⟩
  rw [h3, ← hw]
  have : es = (l.map (entW X.w)).toArray := by
    apply Array.toList_inj.mp
    rw [h4]
    rfl
  rw [this]
theorem set_dct (hK : X.K = W.K) (hw : X.w = W.w) (hu : X.A.units + 64 < cLine) : PSet X (fun o i v H Q => ∃ (B : Addr → Prop) (st : Store) (a : Addr) (kvs : List (D × D)) (y d : D), o = .ref a ∧ RH W B st H ∧ st a = some (.dct kvs) ∧ Rep W B st H i y ∧ Rep W B st H v d ∧ isKey y = true ∧ kvs.length < sizeLine ∧
    ∀ H', RH W B (st.set a (.dct (G.put kvs y d))) H' → Grow st H (st.set a (.dct (G.put kvs y d))) H' → Q H') := by
  intro pins s σ H o i v ov iv u Q I ro ri rv ⟨B, st, a, kvs, y, d, e1, h, e, ry, rd, hy, hz, q⟩
  subst e1
  obtain ⟨b, rfl⟩ := key_ref hy ry
  obtain ⟨kk, hk, hd⟩ := key_of hy
  cases (show ov = Value.ref a from ro)
  cases (show iv = Value.ref b from ri)
  obtain ⟨es, f, hs, l, n⟩ := h.ob _ _ e
  obtain ⟨l', hl, rfl⟩ := l.kl
  have hm := dict_raw hK hw I f hl n
  have hp := hl.put (a := b) hk hy ry rv rd
  refine wpAny_setItem_heap (knd := nestedKind X.prog X.w) (room9 hu) (dat_nis hK I hk hd ry) hm (fun h' hm' sb => ?_) (by rw [hl.length]; omega)
  have hn' : ((G.put kvs y d).map fun p => nk p.1).Nodup := by
    rw [hp.keys]
    obtain ⟨_, _, _, _, _, _, _, _, hn⟩ := hm'
    have e : ((storedH l' kk b u).map fun x => some x.1) = ((storedH l' kk b u).map (·.1)).map some := by rw [List.map_map]; rfl
    rw [e]
    exact hn.map some fun a b hab => fun z => hab (Option.some.inj z)
  obtain ⟨o2, g2⟩ := h.write (u := .ext (RawD a ((storedH l' kk b u).map (entW W.w)))) (o' := .dct (G.put kvs y d)) e fun g => ⟨_, upd_same, hs, by
    have := hp.rk
    exact this.grow g, hn'⟩
  have I' : Inv X pins σ (upd H a (.ext (RawD a ((storedH l' kk b u).map (entW W.w))))) { s with heap := h', toks := s.toks + (nestedKind X.prog X.w).draws kk } := by
    refine I.write (x := a) (e := a) (by rw [f]; trivial) (.inl rfl) (fun c w hc z => (sb.2 c hc).trans z) ?_ (ext_ok hw hm')
    obtain ⟨o, _, _, ho, _⟩ := hm'
    exact ⟨o, ho⟩
  exact ⟨_, I', q _ o2 g2⟩
end
end G
/-! The checker is right: expressions. -/
namespace G
open PySem PySem.Spec PyProof.Rows L2 C8
def dictLess : Prop := True
section
variable {Γ : Ctx} {W : Wd} {κ : Kx}
theorem opB_of {o : Operator} (h : opB o = true) : o = .Add ∨ o = .Sub ∨ o = .Mult ∨ o = .Mod ∨ o = .FloorDiv ∨ o = .Pow := by
  cases o <;> simp [opB] at h ⊢
theorem cmp_all {X : Cx} (hK : X.K = W.K) (hw : X.w = W.w) (hu : X.A.units + 64 < cLine) (o : CmpOp) : OpR X (compareOp o) (rC W fun st => cmpR st o) := by
  cases o
  · exact cmp_eq hK hu
  · exact cmp_ne hK hu
  · exact cmp_lt hK hu
  · exact cmp_le
  · exact cmp_gt
  · exact cmp_ge
  · exact cmp_is
  · exact cmp_isnot
  · refine OpR.imp' ((in_seqs hK hu).or ((in_text (W := W)).or (in_dct hK hw hu))) fun x y H Q ⟨B, st, d1, d2, P, h, r1, r2, k, q⟩ => ?_
    by_cases hs : ∃ z, d2 = .str z
    · obtain ⟨z, rfl⟩ := hs
      obtain ⟨x', rfl, k⟩ := k
      exact .inr (.inl ⟨B, st, _, _, P, h, r1, r2, ⟨_, _, rfl, rfl, k⟩, q⟩)
    · have k' : (∃ xs, seqOf st d2 = some xs ∧ d1.dat 60 ∧ D.dats 60 xs ∧ P (xs.any fun x => x.eqv d1)) ∨ (∃ kvs, dctOf st d2 = some kvs ∧ isKey d1 ∧ P (look kvs d1).isSome) := by
        cases d2 <;> first | exact k | exact (hs ⟨_, rfl⟩).elim
      rcases k' with k | k
      · exact .inl ⟨B, st, _, _, P, h, r1, r2, k, q⟩
      · exact .inr (.inr ⟨B, st, _, _, P, h, r1, r2, k, q⟩)
  · refine OpR.imp' ((notin_seqs hK hu).or ((notin_text (W := W)).or (notin_dct hK hw hu))) fun x y H Q ⟨B, st, d1, d2, P, h, r1, r2, k, q⟩ => ?_
    by_cases hs : ∃ z, d2 = .str z
    · obtain ⟨z, rfl⟩ := hs
      obtain ⟨x', rfl, k⟩ := k
      exact .inr (.inl ⟨B, st, _, _, P, h, r1, r2, ⟨_, _, rfl, rfl, k⟩, q⟩)
    · have k' : (∃ xs, seqOf st d2 = some xs ∧ d1.dat 60 ∧ D.dats 60 xs ∧ P (!xs.any fun x => x.eqv d1)) ∨ (∃ kvs, dctOf st d2 = some kvs ∧ isKey d1 ∧ P (!(look kvs d1).isSome)) := by
        cases d2 <;> first | exact k | exact (hs ⟨_, rfl⟩).elim
      rcases k' with k | k
      · exact .inl ⟨B, st, _, _, P, h, r1, r2, k, q⟩
      · exact .inr (.inr ⟨B, st, _, _, P, h, r1, r2, k, q⟩)
theorem bi_lenA {X : Cx} (hK : X.K = W.K) (hw : X.w = W.w) : CallR X (.builtin "len") (rB W fun st => biR st .len) := by
  refine CallR.imp ((bi_len1 hK).or (len_dct hK hw)) fun xs H Q ⟨B, st, v, d, P, e0, h, r, k, q⟩ => ?_
  rcases k with k | k | k
  · exact .inl ⟨B, st, v, d, P, e0, h, r, .inl k, q⟩
  · exact .inl ⟨B, st, v, d, P, e0, h, r, .inr k, q⟩
  · exact .inr ⟨B, st, v, d, P, e0, h, r, k, q⟩
theorem ix_all {X : Cx} (hK : X.K = W.K) (hw : X.w = W.w) (hu : X.A.units + 64 < cLine) : IxR X (r2 W idxR) := by
  intro value slice pins s σ H x y v u Q I rx ry ⟨B, st, d1, d2, P, h, r1, r2, k, q⟩ hs
  rcases k with k | k
  · exact ix_seqs hK value slice pins s σ H x y v u Q I rx ry ⟨B, st, d1, d2, P, h, r1, r2, k, q⟩ hs
  · exact ix_dct hK hw hu value slice pins s σ H x y v u Q I rx ry ⟨B, st, d1, d2, P, h, r1, r2, k, q⟩ hs
theorem bn_mem {x : Str} (h : x ∈ bnames) : (x == ("__debug__" : Str)) = false ∧ x ≠ "__name__" := by
  have : ∀ x ∈ bnames, (x == ("__debug__" : Str)) = false ∧ x ≠ "__name__" := by decide +kernel
  exact this x h
theorem star1 {e : Expr} {env : PySem.Env} (h : plB e = true) : starEach [e] env = [(false, eval e env)] := star_pl h
theorem star2 {e f : Expr} {env : PySem.Env} (h : plB e = true) (h2 : plB f = true) : starEach [e, f] env = [(false, eval e env), (false, eval f env)] := by
  rw [star_pl h, star1 h2]
/-- all of plain arguments -/
theorem pl_star : ∀ (es : Es) {sc : Scope} (l : List Expr), chEs κ sc es l = true → ∀ env, starEach l env = l.map fun e => (false, eval e env)
  | .nil, sc, l, h => by
    intro env
    unfold chEs at h
    split at h
    · rfl
    · cases h
  | .cons e es, sc, l, h => by
    intro env
    unfold chEs at h
    split at h
    · rename_i x xs
      simp only [Bool.and_eq_true] at h
      rw [star_pl h.1.1, pl_star es xs h.2 env]; rfl
    · cases h
theorem backTo_any {pos : Pos} : ∀ {l : List Expr} {env : PySem.Env}, ((backTo pos (l.map fun e => (false, eval e env))).any fun x => x.1) = false
  | [], _ => rfl
  | e :: l, env => by
    have := backTo_any (pos := pos) (l := l) (env := env)
    unfold backTo at this ⊢
    simp only [List.map_cons, List.any_cons, this, Bool.or_false]
theorem form_ok {pos : Pos} {l : List Expr} {env : PySem.Env} (h : l.length < 29) : methodCallForm l.length (backTo pos (l.map fun e => (false, eval e env))) (backToKw pos (keywordEach [] env)) = true := by
  unfold methodCallForm
  have e : (backTo pos (l.map fun e => (false, eval e env))).all (fun x => !x.1) = true := by
    rw [List.all_eq_true]
    intro x hx
    unfold backTo at hx
    simp only [List.map_map, List.mem_map, Function.comp] at hx
    obtain ⟨y, _, rfl⟩ := hx
    rfl
  rw [e]
  have e2 : (backToKw pos (keywordEach [] env)) = [] := by unfold backToKw keywordEach; rfl
  rw [e2]
  simp only [List.all_nil, List.isEmpty_nil, if_true, Bool.and_true, Bool.true_and, decide_eq_true_eq]
  omega
end
end G
/-! Freezing. -/
namespace G
open PySem PySem.Spec PyProof.Rows L2
/-! ### freezing -/
section
variable {W : Wd} {B : Addr → Prop} {st st' : Store} {H : Hp}
mutual
theorem Fz.rep (h : RH W B st H) (l : ∀ a o, st' a = some o → st a = some o) : ∀ {x y : D}, Fz st st' x y → ∀ {v : V}, Rep W B st H v x → Rep W B st' H v y
  | _, _, .refl d, _, r => r.grow (h.less l).2
  | _, _, .tup z, _, .tup f r => .tup (f.grow (h.less l).2.b) (Fzs.rep h l z r)
  | _, _, .lst z, _, .lst s f r => .lst ((s.grow (h.less l).2.b f).1) f (Fzs.rep h l z r)
  | _, _, .loc e n z, _, r => by
    cases r
    obtain ⟨vs, f, r⟩ := h.ob _ _ e
    refine .lst ⟨n, fun hb => ?_⟩ f (Fzs.rep h l z r)
    rw [(h.hid _ hb).1] at e; cases e
  | _, _, .dct e n z, _, r => by
    cases r
    obtain ⟨es, f, s, r, m⟩ := h.ob _ _ e
    refine .dct ⟨n, fun hb => ?_⟩ f s (Fzk.rep h l z r) (by rw [← Fzk.keys z]; exact m)
    rw [(h.hid _ hb).1] at e; cases e
  | _, _, .ins e n z, _, r => by
    cases r
    obtain ⟨C, dx, gs, f, s, r⟩ := h.ob _ _ e
    refine .ins ⟨n, fun hb => ?_⟩ f s (Fzf.rep h l z r)
    rw [(h.hid _ hb).1] at e; cases e
theorem Fzs.rep (h : RH W B st H) (l : ∀ a o, st' a = some o → st a = some o) : ∀ {x y : List D}, Fzs st st' x y → ∀ {v : List V}, RepL W B st H v x → RepL W B st' H v y
  | _, _, .nil, _, .nil => .nil
  | _, _, .cons z zs, _, .cons r rs => .cons (Fz.rep h l z r) (Fzs.rep h l zs rs)
theorem Fzk.rep (h : RH W B st H) (l : ∀ a o, st' a = some o → st a = some o) : ∀ {x y : List (D × D)}, Fzk st st' x y → ∀ {v : List DictEntry}, RepK W B st H v x → RepK W B st' H v y
  | _, _, .nil, _, .nil => .nil
  | _, _, .cons z zs, _, .cons k d r q s rs => .cons k d (r.grow (h.less l).2) q (Fz.rep h l z s) (Fzk.rep h l zs rs)
theorem Fzk.keys : ∀ {x y : List (D × D)}, Fzk st st' x y → (x.map fun p => nk p.1) = (y.map fun p => nk p.1)
  | _, _, .nil => rfl
  | _, _, .cons z zs => by simp [Fzk.keys zs]
theorem Fzf.rep (h : RH W B st H) (l : ∀ a o, st' a = some o → st a = some o) : ∀ {x y : List (Str × D)}, Fzf st st' x y → ∀ {v : List (Str × V)}, RepF W B st H v x → RepF W B st' H v y
  | _, _, .nil, _, .nil => .nil
  | _, _, .cons z zs, _, .cons r rs => .cons (Fz.rep h l z r) (Fzf.rep h l zs rs)
end
theorem s_frz {X : Cx} {e : Expr} {m : M} (h : PE X e (LE W m)) : PE X e (LE W fun ρ st Q => m ρ st fun x st1 => ∃ st2 y, (∀ a o, st2 a = some o → st1 a = some o) ∧ Fz st1 st2 x y ∧ Q y st2) := by
  refine h.mono fun σ H Q ⟨B, ρ, st, P, r, h, q⟩ => ⟨B, ρ, st, _, r, h, fun d st1 v H1 ⟨st2, y, l, z, h1⟩ r1 o1 g1 => ?_⟩
  exact q _ _ _ _ h1 (z.rep o1 l r1) (o1.less l).1 (g1.trans (o1.less l).2)
end
end G
/-! The checker is right: expressions. -/
namespace G
open PySem PySem.Spec PyProof.Rows L2 C8
section
variable {Γ : Ctx} {W : Wd} {κ : Kx}
theorem gl_ne {X : Cx} (ok : ∃ sc, Okk Γ W κ sc X) : True := trivial
theorem supW {X : Cx} {o : Expr} {a : Str} (h : supB o = true) : ∀ w, attributeBase o a X.env w = w := sup_no h
theorem boot_ty (t : Ty) (h : tyName t ≠ "") : bootBuiltins (Str.ofString (tyName t)) = some (.type (tyName t)) ∧ Str.ofString (tyName t) ∈ bnames := by
  cases t
  · exact ⟨by show bootBuiltins (Str.ofString "int") = _; decide +kernel, by show Str.ofString "int" ∈ _; decide +kernel⟩
  · exact ⟨by show bootBuiltins (Str.ofString "bool") = _; decide +kernel, by show Str.ofString "bool" ∈ _; decide +kernel⟩
  · exact ⟨by show bootBuiltins (Str.ofString "str") = _; decide +kernel, by show Str.ofString "str" ∈ _; decide +kernel⟩
  · exact ⟨by show bootBuiltins (Str.ofString "tuple") = _; decide +kernel, by show Str.ofString "tuple" ∈ _; decide +kernel⟩
  · exact ⟨by show bootBuiltins (Str.ofString "list") = _; decide +kernel, by show Str.ofString "list" ∈ _; decide +kernel⟩
  · exact (h rfl).elim
theorem isi_1 {sc : Scope} {X : Cx} (ok : Okk Γ W κ sc X) {x : Expr} {ma : M} {f t : Str} {p1 p2 pos : Pos} {ts : List Ty} (ha : PE X x (LE W ma)) (hf : f = "isinstance") (hg : glB sc f = true) (hp : plB x = true)
    (ht : tysB1 sc t ts = true) :
    PE X (.Call (.Name f p1) [x, .Name t p2] [] pos) (LE W fun ρ st Q => ma ρ st fun y st1 => match isTys ts (rsv st1 y) with | some b => Q (.bl b) st1 | none => False) := by
  subst hf
  unfold tysB1 at ht
  split at ht <;> try cases ht
  rename_i u
  simp only [Bool.and_eq_true, decide_eq_true_eq] at ht
  obtain ⟨⟨rfl, h2⟩, h3⟩ := ht
  obtain ⟨b1, b2⟩ := boot_ty u h2
  exact s_isi1 ok.fx.K (ok.gl hg) (ok.bn) (ok.gl h3) (ok.fx.bn _ b2) b1 (bn_mem b2).2 (bn_mem b2).1 ha (star_pl hp)
theorem isi_2 {sc : Scope} {X : Cx} (ok : Okk Γ W κ sc X) {x : Expr} {ma : M} {f t t' : Str} {p1 p2 p3 p4 pos : Pos} {kk : Nat} {ts : List Ty} (ha : PE X x (LE W ma)) (hf : f = "isinstance") (hg : glB sc f = true) (hp : plB x = true)
    (ht : tysB2 sc t t' ts = true) :
    PE X (.Call (.Name f p1) [x, .Tuple [.Name t p2, .Name t' p3] kk p4] [] pos) (LE W fun ρ st Q => ma ρ st fun y st1 => match isTys ts (rsv st1 y) with | some b => Q (.bl b) st1 | none => False) := by
  subst hf
  unfold tysB2 at ht
  split at ht <;> try cases ht
  rename_i u u'
  simp only [Bool.and_eq_true, decide_eq_true_eq] at ht
  obtain ⟨⟨⟨⟨⟨rfl, h2⟩, h3⟩, rfl⟩, h5⟩, h6⟩ := ht
  obtain ⟨b1, b2⟩ := boot_ty u h2
  obtain ⟨c1, c2⟩ := boot_ty u' h5
  exact s_isi2 ok.fx.K (ok.gl hg) (ok.bn) (ok.gl h3) (ok.fx.bn _ b2) b1 (bn_mem b2).2 (bn_mem b2).1 (ok.gl h6) (ok.fx.bn _ c2) c1 (bn_mem c2).2 (bn_mem c2).1 ha (star_pl hp)
/-- calls of defs -/
theorem call_any {sc : Scope} {X : Cx} (ok : Okk Γ W κ sc X) {f : Str} {p pos : Pos} {es : Es} {l : List Expr} (hf : f ∈ κ.fns) (hg : glB sc f = true) (hn : nameOk f = true) (hl : chEs κ sc es l = true) (ha : PA X l (LA W (denEs Γ X0 es))) :
    PE X (.Call (.Name f p) l [] pos) (LE W (den Γ X0 (.call f es))) := by
  obtain ⟨sp, e⟩ := ok.fns f hf
  obtain ⟨k, ⟨a, fd, ps, ds, F, hm, hk, hb, hv⟩, hr⟩ := ok.fx.fn f sp e
  cases hv
  have hs := pl_star es l hl
  cases l with
  | nil =>
    cases es with
    | nil => exact PE.to (s_call0 F hr (ok.gl hg) hm hk hb (name_of hn).1) (by funext ρ st Q; rw [den, denEs, e])
    | cons _ _ => simp [chEs] at hl
  | cons x xs =>
    refine PE.to (s_call F hr (ok.gl hg) hm hk hb ha (name_of hn).1 ?_ ?_) (by funext ρ st Q; rw [den, e])
    · cases es with
      | nil => simp [chEs] at hl
      | cons e es => unfold chEs at hl; simp only [Bool.and_eq_true] at hl; exact star_pl hl.1.1
    · cases es with
      | nil => simp [chEs] at hl
      | cons e es => unfold chEs at hl; simp only [Bool.and_eq_true] at hl; rw [pl_star es xs hl.2]; exact backTo_any
theorem mcl_any {sc : Scope} {X : Cx} (ok : Okk Γ W κ sc X) {c m : Str} {p pos : Pos} {o : E} {v : Expr} {es : Es} {l : List Expr} (hf : (c, m) ∈ κ.mes) (hi : m ≠ "__init__") (hsup : supB v = true) (hpl : (p.endLine == pos.line) = true) (hlen : l.length < 29)
    (ho : PE X v (LE W (den Γ X0 o))) (hl : chEs κ sc es l = true) (ha : PA X l (LA W (denEs Γ X0 es))) :
    PE X (.Call (.Attribute v m p) l [] pos) (LE W (den Γ X0 (.mcl c m o es))) := by
  obtain ⟨sp, e⟩ := ok.mes c m hf
  obtain ⟨C, k, hc, ⟨a, fd, ps, ds, cl, me, F, hb, hv⟩, hr⟩ := ok.fx.me c m sp e hi
  cases hv
  have hs := pl_star es l hl
  cases l with
  | nil =>
    cases es with
    | nil => exact PE.to (s_mcl0 ho hc cl me F hr hb (supW hsup) hpl) (by funext ρ st Q; rw [den]; simp only [denEs, e])
    | cons _ _ => simp [chEs] at hl
  | cons x xs =>
    refine PE.to (s_mcl ho hc cl me F hr hb ha ?_ ?_ (supW hsup) hpl ?_) (by funext ρ st Q; rw [den, e])
    · cases es with
      | nil => simp [chEs] at hl
      | cons e es => unfold chEs at hl; simp only [Bool.and_eq_true] at hl; exact star_pl hl.1.1
    · cases es with
      | nil => simp [chEs] at hl
      | cons e es => unfold chEs at hl; simp only [Bool.and_eq_true] at hl; rw [pl_star es xs hl.2]; exact backTo_any
    · rw [hs]; exact form_ok hlen
theorem new_any {sc : Scope} {X : Cx} (ok : Okk Γ W κ sc X) {c : Str} {p pos : Pos} {es : Es} {l : List Expr} (hf : (c, ("__init__" : Str)) ∈ κ.mes) (hg : glB sc c = true) (hn : nameOk c = true) (hne : (!l.isEmpty) = true) (hl : chEs κ sc es l = true) (ha : PA X l (LA W (denEs Γ X0 es))) :
    PE X (.Call (.Name c p) l [] pos) (LE W (den Γ X0 (.new c es))) := by
  obtain ⟨sp, e⟩ := ok.mes c _ hf
  obtain ⟨C, k, hc, ⟨a, fd, ps, ds, mk, F, hm, hb, hv⟩, hr⟩ := ok.fx.nw c sp e
  cases hv
  have hs := pl_star es l hl
  cases l with
  | nil => cases hne
  | cons x xs =>
    refine PE.to (s_new hc mk F hr (ok.gl hg) hm hb ha (name_of hn).1 ?_ ?_) (by funext ρ st Q; rw [den, e])
    · cases es with
      | nil => simp [chEs] at hl
      | cons e es => unfold chEs at hl; simp only [Bool.and_eq_true] at hl; exact star_pl hl.1.1
    · cases es with
      | nil => simp [chEs] at hl
      | cons e es => unfold chEs at hl; simp only [Bool.and_eq_true] at hl; rw [pl_star es xs hl.2]; exact backTo_any
/-- built-ins of one value -/
theorem bi_any1 {sc : Scope} {X : Cx} (ok : Okk Γ W κ sc X) {b : Bi} {x : Expr} {ma : M} {f : Str} {p pos : Pos} (ha : PE X x (LE W ma)) (hf : f = biName b) (hg : glB sc f = true) (hp : plB x = true) (hb : (match b with | .max => false | .min => false | .len => false | _ => true) = true) :
    PE X (.Call (.Name f p) [x] [] pos) (LE W fun ρ st Q => ma ρ st fun x st1 => biR st1 b x fun r => Q r st1) := by
  subst hf
  have hs := star1 (env := X.env) hp
  cases b <;> try cases hb
  · exact (pe_callTy (bi_tuple ok.fx.K) (ok.gl hg) ok.bn (by decide +kernel) (pa_cons ha pa_nil hs) (he := hs)).mono liftB
  · exact (pe_callB (bi_all ok.fx.calm) (ok.gl hg) ok.bn (by decide +kernel) (pa_cons ha pa_nil hs) (he := hs)).mono liftB
  · exact (pe_callB (bi_any ok.fx.calm) (ok.gl hg) ok.bn (by decide +kernel) (pa_cons ha pa_nil hs) (he := hs)).mono liftB
  · exact (pe_callTy bi_int (ok.gl hg) ok.bn (by decide +kernel) (pa_cons ha pa_nil hs) (he := hs)).mono liftB
  · exact (pe_callB (bi_sum ok.fx.calm) (ok.gl hg) ok.bn (by decide +kernel) (pa_cons ha pa_nil hs) (he := hs)).mono liftB
end
end G
/-! The checker is right: expressions. -/
namespace G
open PySem PySem.Spec PyProof.Rows L2 C8
section
variable {Γ : Ctx} {W : Wd} {κ : Kx}
mutual
theorem soE : ∀ (ir : E) {sc : Scope} {X : Cx}, Okk Γ W κ sc X → ∀ (e : Expr), chE κ sc ir e = true → PE X e (LE W (den Γ X0 ir))
  | .var i, sc, X, ok, e, h => by
    unfold chE at h; split at h <;> try cases h
    simp only [Bool.and_eq_true] at h
    exact PE.to (s_var (ok.ix h.1.1) (ok.vis h.1.2) (name_of h.2).1 (name_of h.2).2.1) (by
      funext ρ st Q; rw [den] <;> (rcases ρ[i]? with _ | _ | _ <;> rfl))
  | .non, sc, X, ok, e, h => by
    unfold chE at h; split at h <;> try cases h
    exact PE.to (s_const (v := .non) (d := .non) pe_non fun _ _ _ => .non) (by funext ρ st Q; rw [den])
  | .bl b, sc, X, ok, e, h => by
    unfold chE at h; split at h <;> try cases h
    have h := eq_of_beq h
    subst h
    exact PE.to (s_const pe_bl fun _ _ _ => .bl _) (by funext ρ st Q; rw [den])
  | .int i, sc, X, ok, e, h => by
    unfold chE at h; split at h <;> try cases h
    have h := of_decide_eq_true h
    subst h
    exact PE.to (s_const pe_int fun _ _ _ => .int _) (by funext ρ st Q; rw [den])
  | .str x, sc, X, ok, e, h => by
    unfold chE at h; split at h <;> try cases h
    have h := of_decide_eq_true h
    subst h
    exact PE.to (s_const pe_str fun _ _ _ => .str _) (by funext ρ st Q; rw [den])
  | .glo x, sc, X, ok, e, h => by
    unfold chE at h; split at h <;> try cases h
    simp only [Bool.and_eq_true, decide_eq_true_eq] at h
    obtain ⟨⟨rfl, h2⟩, h3⟩ := h
    cases q : Γ.gl x with
    | none => exact ⟨fun pins s σ H Q I ⟨B, ρ, st, P, r, k, _⟩ => by unfold den at k; rw [q] at k; exact k.elim⟩
    | some d =>
      obtain ⟨v, u, e1, e2, e3⟩ := ok.fx.gl x d q
      exact PE.to (s_const (pe_glob (ok.gl h2) e1 e2 (name_of h3).1) e3) (by funext ρ st Q; rw [den, q])
  | .tup es, sc, X, ok, e, h => by
    unfold chE at h; split at h <;> try cases h
    exact PE.to (s_tup (soEs es ok _ h)) (by funext ρ st Q; rw [den])
  | .fr p, sc, X, ok, e, h => by
    unfold chE at h
    exact PE.to (s_fr (soP p ok _ h)) (by funext ρ st Q; rw [den] <;> (refine congrArg _ ?_; funext o st1; cases o <;> rfl))
  | .bx p, sc, X, ok, e, h => by
    unfold chE at h
    exact PE.to (s_bx (soP p ok _ h)) (by funext ρ st Q; rw [den])
  | .bin o a b, sc, X, ok, e, h => by
    unfold chE at h; split at h <;> try cases h
    simp only [Bool.and_eq_true, decide_eq_true_eq] at h
    obtain ⟨⟨⟨rfl, h2⟩, h3⟩, h4⟩ := h
    exact PE.to (s_bin (bin_all ok.fx.K o (opB_of h2)) (soE a ok _ h3) (soE b ok _ h4)) (by funext ρ st Q; rw [den])
  | .neg a, sc, X, ok, e, h => by
    unfold chE at h; split at h <;> try cases h
    exact PE.to (s_neg (soE a ok _ h)) (by funext ρ st Q; rw [den])
  | .cmp o a b, sc, X, ok, e, h => by
    unfold chE at h; split at h <;> try cases h
    simp only [Bool.and_eq_true, decide_eq_true_eq] at h
    obtain ⟨⟨⟨rfl, h2⟩, h3⟩, h4⟩ := h
    exact PE.to (s_cmp (cmp_all ok.fx.K ok.fx.w ok.hu o) (soE a ok _ h3) (soE b ok _ h4) (mark_no h2)) (by funext ρ st Q; rw [den])
  | .cmp2 o o' a b c, sc, X, ok, e, h => by
    unfold chE at h; split at h <;> try cases h
    simp only [Bool.and_eq_true, decide_eq_true_eq] at h
    obtain ⟨⟨⟨⟨⟨rfl, rfl⟩, h2⟩, h3⟩, h4⟩, h5⟩ := h
    exact PE.to (s_cmp2 (cmp_all ok.fx.K ok.fx.w ok.hu o) (cmp_all ok.fx.K ok.fx.w ok.hu o') (soE a ok _ h3) (soE b ok _ h4) (soE c ok _ h5) (mark_no h2)) (by funext ρ st Q; rw [den])
  | .bop isAnd es, sc, X, ok, e, h => by
    unfold chE at h; split at h <;> try cases h
    · simp only [Bool.and_eq_true, Bool.not_eq_true'] at h
      obtain ⟨⟨rfl, h2⟩, h3⟩ := h
      exact PE.to (soAnd es ok _ h3 (by intro e; subst e; cases h2)) (by funext ρ st Q; rw [den])
    · simp only [Bool.and_eq_true, Bool.not_eq_true'] at h
      obtain ⟨⟨rfl, h2⟩, h3⟩ := h
      exact PE.to (soOr es ok _ h3 (by intro e; subst e; cases h2)) (by funext ρ st Q; rw [den])
  | .orv a b, sc, X, ok, e, h => by
    unfold chE at h; split at h <;> try cases h
    simp only [Bool.and_eq_true] at h
    exact PE.to (s_orv ok.fx.K (soE a ok _ h.1) (s_one (soE b ok _ h.2))) (by funext ρ st Q; rw [den])
  | .not a, sc, X, ok, e, h => by
    unfold chE at h; split at h <;> try cases h
    exact PE.to (s_not (soE a ok _ h)) (by funext ρ st Q; rw [den])
  | .ite t a b, sc, X, ok, e, h => by
    unfold chE at h; split at h <;> try cases h
    simp only [Bool.and_eq_true] at h
    exact PE.to (s_ite (soT t ok _ h.1.1) (soE a ok _ h.1.2) (soE b ok _ h.2)) (by funext ρ st Q; rw [den])
  | .idx a i, sc, X, ok, e, h => by
    unfold chE at h; split at h <;> try cases h
    simp only [Bool.and_eq_true] at h
    exact PE.to (s_idx (k := idxR) (ix_all ok.fx.K ok.fx.w ok.hu) (soE a ok _ h.1.2) (soE i ok _ h.2) (ix_pl h.1.1)) (by funext ρ st Q; rw [den])
  | .slc a lo hi, sc, X, ok, e, h => by
    unfold chE at h; split at h <;> try cases h
    simp only [Bool.and_eq_true] at h
    exact PE.to (s_slc ok.fx.K (soE a ok _ h.1.1) (soO lo ok _ h.1.2) (soO hi ok _ h.2)) (by funext ρ st Q; rw [den])
  | .rev a, sc, X, ok, e, h => by
    unfold chE at h; split at h <;> try cases h
    simp only [Bool.and_eq_true, decide_eq_true_eq] at h
    obtain ⟨rfl, h2⟩ := h
    exact PE.to (s_rev ok.fx.K (soE a ok _ h2)) (by funext ρ st Q; rw [den])
  | .bi b a, sc, X, ok, e, h => by
    unfold chE at h; split at h <;> try cases h
    simp only [Bool.and_eq_true, decide_eq_true_eq] at h
    obtain ⟨⟨⟨⟨h1, h2⟩, h3⟩, h4⟩, h5⟩ := h
    by_cases hl : b = .len
    · subst hl; subst h1
      have hs := star1 (env := X.env) h3
      exact PE.to ((pe_callB (bi_lenA ok.fx.K ok.fx.w) (ok.gl h2) ok.bn (by decide +kernel) (pa_cons (soE a ok _ h4) pa_nil hs) (he := hs)).mono liftB) (by funext ρ st Q; rw [den])
    · exact PE.to (bi_any1 ok (soE a ok _ h4) h1 h2 h3 (by cases b <;> first | rfl | exact (hl rfl).elim | exact h5)) (by funext ρ st Q; rw [den])
  | .mx m a b, sc, X, ok, e, h => by
    unfold chE at h; split at h <;> try cases h
    simp only [Bool.and_eq_true, decide_eq_true_eq] at h
    obtain ⟨⟨⟨⟨⟨rfl, h2⟩, h3⟩, h4⟩, h5⟩, h6⟩ := h
    have hs := star2 (env := X.env) h3 h4
    have hs' := star1 (env := X.env) h4
    cases m
    · exact PE.to ((pe_callB (bi_min2 ok.fx.calm) (ok.gl h2) ok.bn (by decide +kernel) (pa_cons (soE a ok _ h5) (pa_cons (soE b ok _ h6) pa_nil hs') (by rw [hs, hs'])) (he := by rw [hs, hs']) (hpl := by rw [hs']; rfl)).mono liftB2) (by funext ρ st Q; rw [den])
    · exact PE.to ((pe_callB (bi_max2 ok.fx.calm) (ok.gl h2) ok.bn (by decide +kernel) (pa_cons (soE a ok _ h5) (pa_cons (soE b ok _ h6) pa_nil hs') (by rw [hs, hs'])) (he := by rw [hs, hs']) (hpl := by rw [hs']; rfl)).mono liftB2) (by funext ρ st Q; rw [den])
  | .isi a ts, sc, X, ok, e, h => by
    unfold chE at h; split at h <;> try cases h
    · simp only [Bool.and_eq_true, decide_eq_true_eq] at h
      obtain ⟨⟨⟨⟨h1, h2⟩, h3⟩, h4⟩, h5⟩ := h
      exact PE.to (isi_1 ok (soE a ok _ h4) h1 h2 h3 h5) (by funext ρ st Q; rw [den] <;> (refine congrArg _ ?_; funext x st1; cases isTys ts (rsv st1 x) <;> rfl))
    · simp only [Bool.and_eq_true, decide_eq_true_eq] at h
      obtain ⟨⟨⟨⟨h1, h2⟩, h3⟩, h4⟩, h5⟩ := h
      exact PE.to (isi_2 ok (soE a ok _ h4) h1 h2 h3 h5) (by funext ρ st Q; rw [den] <;> (refine congrArg _ ?_; funext x st1; cases isTys ts (rsv st1 x) <;> rfl))
  | .app o a, sc, X, ok, e, h => by
    unfold chE at h; split at h <;> try cases h
    simp only [Bool.and_eq_true, decide_eq_true_eq] at h
    obtain ⟨⟨⟨⟨⟨rfl, h2⟩, h3⟩, h4⟩, h5⟩, h6⟩ := h
    exact PE.to (s_app (soE o ok _ h5) (soE a ok _ h6) (supW h2) h3 (star1 h4)) (by funext ρ st Q; rw [den])
  | .pop o, sc, X, ok, e, h => by
    unfold chE at h; split at h <;> try cases h
    simp only [Bool.and_eq_true, decide_eq_true_eq] at h
    obtain ⟨⟨⟨rfl, h2⟩, h3⟩, h4⟩ := h
    exact PE.to (s_pop (soE o ok _ h4) (supW h2) h3) (by funext ρ st Q; rw [den])
  | .popAt o a, sc, X, ok, e, h => by
    unfold chE at h; split at h <;> try cases h
    simp only [Bool.and_eq_true, decide_eq_true_eq] at h
    obtain ⟨⟨⟨⟨⟨rfl, h2⟩, h3⟩, h4⟩, h5⟩, h6⟩ := h
    exact PE.to (s_popAt (soE o ok _ h5) (soE a ok _ h6) (supW h2) h3 (star1 h4)) (by funext ρ st Q; rw [den])
  | .ins o i a, sc, X, ok, e, h => by
    unfold chE at h; split at h <;> try cases h
    simp only [Bool.and_eq_true, decide_eq_true_eq] at h
    obtain ⟨⟨⟨⟨⟨⟨⟨rfl, h2⟩, h3⟩, h4⟩, h4'⟩, h5⟩, h6⟩, h7⟩ := h
    exact PE.to (s_ins (soE o ok _ h5) (soE i ok _ h6) (soE a ok _ h7) (supW h2) h3 (star2 h4 h4') (star1 h4')) (by funext ρ st Q; rw [den])
  | .upper o, sc, X, ok, e, h => by
    unfold chE at h; split at h <;> try cases h
    simp only [Bool.and_eq_true, decide_eq_true_eq] at h
    obtain ⟨⟨⟨rfl, h2⟩, h3⟩, h4⟩ := h
    exact PE.to (s_upper (soE o ok _ h4) (supW h2) h3) (by funext ρ st Q; rw [den])
  | .join o a, sc, X, ok, e, h => by
    unfold chE at h; split at h <;> try cases h
    simp only [Bool.and_eq_true, decide_eq_true_eq] at h
    obtain ⟨⟨⟨⟨⟨rfl, h2⟩, h3⟩, h4⟩, h5⟩, h6⟩ := h
    exact PE.to (s_join (soE o ok _ h5) (soE a ok _ h6) (supW h2) h3 (star1 h4)) (by funext ρ st Q; rw [den])
  | .get _ _, sc, X, ok, e, h => by unfold chE at h; cases h
  | .getd _ _ _, sc, X, ok, e, h => by unfold chE at h; cases h
  | .setd _ _ _, sc, X, ok, e, h => by unfold chE at h; cases h
  | .upd _ _, sc, X, ok, e, h => by unfold chE at h; cases h
  | .att o f, sc, X, ok, e, h => by
    unfold chE at h; split at h <;> try cases h
    simp only [Bool.and_eq_true, decide_eq_true_eq] at h
    obtain ⟨⟨rfl, h2⟩, h3⟩ := h
    exact PE.to (s_att (cf := Γ.cf) (fun c C a b => ok.fx.cf c f C a b) (soE o ok _ h3) (supW h2)) (by funext ρ st Q; rw [den])
  | .call f es, sc, X, ok, e, h => by
    unfold chE at h; split at h <;> try cases h
    simp only [Bool.and_eq_true, decide_eq_true_eq] at h
    obtain ⟨⟨⟨⟨rfl, h1⟩, h2⟩, h3⟩, h4⟩ := h
    exact call_any ok h1 h2 h3 h4 (soEs es ok _ h4)
  | .mcl c m o es, sc, X, ok, e, h => by
    unfold chE at h; split at h <;> try cases h
    simp only [Bool.and_eq_true, decide_eq_true_eq] at h
    obtain ⟨⟨⟨⟨⟨⟨⟨rfl, h1⟩, h2⟩, h3⟩, h4⟩, h5⟩, h6⟩, h7⟩ := h
    exact mcl_any ok h2 h1 h3 h4 h5 (soE o ok _ h6) h7 (soEs es ok _ h7)
  | .new c es, sc, X, ok, e, h => by
    unfold chE at h; split at h <;> try cases h
    simp only [Bool.and_eq_true, decide_eq_true_eq] at h
    obtain ⟨⟨⟨⟨⟨rfl, h1⟩, h2⟩, h3⟩, h4⟩, h5⟩ := h
    exact new_any ok h1 h2 h3 h4 h5 (soEs es ok _ h5)
  | .clv _ _, sc, X, ok, e, h => by unfold chE at h; cases h
  | .frz a, sc, X, ok, e, h => by
    unfold chE at h
    exact PE.to (s_frz (soE a ok _ h)) (by funext ρ st Q; rw [den])
theorem soAnd : ∀ (es : Es) {sc : Scope} {X : Cx}, Okk Γ W κ sc X → ∀ (l : List Expr) {pos : Pos}, chEs κ sc es l = true → l ≠ [] → PE X (.BoolOp .And l pos) (LE W (denB Γ X0 true es))
  | .nil, sc, X, ok, l, pos, h, hn => by
    unfold chEs at h; split at h <;> try cases h
    exact (hn rfl).elim
  | .cons e .nil, sc, X, ok, l, pos, h, hn => by
    unfold chEs at h; split at h <;> try cases h
    simp only [Bool.and_eq_true] at h
    obtain ⟨⟨h1, h2⟩, h3⟩ := h
    unfold chEs at h3; split at h3 <;> try cases h3
    exact PE.to (s_one (soE e ok _ h2)) (by funext ρ st Q; rw [denB])
  | .cons e (.cons e2 es), sc, X, ok, l, pos, h, hn => by
    unfold chEs at h; split at h <;> try cases h
    simp only [Bool.and_eq_true] at h
    obtain ⟨⟨h1, h2⟩, h3⟩ := h
    rename_i x xs
    cases xs with
    | nil => simp [chEs] at h3
    | cons y ys => exact PE.to (s_and ok.fx.K (soE e ok _ h2) (soAnd (.cons e2 es) ok (y :: ys) h3 (by simp))) (by funext ρ st Q; rw [denB])
theorem soOr : ∀ (es : Es) {sc : Scope} {X : Cx}, Okk Γ W κ sc X → ∀ (l : List Expr) {pos : Pos}, chEs κ sc es l = true → l ≠ [] → PE X (.BoolOp .Or l pos) (LE W (denB Γ X0 false es))
  | .nil, sc, X, ok, l, pos, h, hn => by
    unfold chEs at h; split at h <;> try cases h
    exact (hn rfl).elim
  | .cons e .nil, sc, X, ok, l, pos, h, hn => by
    unfold chEs at h; split at h <;> try cases h
    simp only [Bool.and_eq_true] at h
    obtain ⟨⟨h1, h2⟩, h3⟩ := h
    unfold chEs at h3; split at h3 <;> try cases h3
    exact PE.to (s_one (soE e ok _ h2)) (by funext ρ st Q; rw [denB])
  | .cons e (.cons e2 es), sc, X, ok, l, pos, h, hn => by
    unfold chEs at h; split at h <;> try cases h
    simp only [Bool.and_eq_true] at h
    obtain ⟨⟨h1, h2⟩, h3⟩ := h
    rename_i x xs
    cases xs with
    | nil => simp [chEs] at h3
    | cons y ys => exact PE.to (s_or ok.fx.K (soE e ok _ h2) (soOr (.cons e2 es) ok (y :: ys) h3 (by simp))) (by funext ρ st Q; rw [denB])
theorem soT : ∀ (ir : E) {sc : Scope} {X : Cx}, Okk Γ W κ sc X → ∀ (e : Expr), chT κ sc ir e = true → PT X e (LT W (den Γ X0 ir))
  | .not a, sc, X, ok, e, h => by
    unfold chT at h; split at h <;> try cases h
    exact PT.to (t_not (soT a ok _ h)) (by funext ρ st Q; rw [den])
  | .bop isAnd es, sc, X, ok, e, h => by
    unfold chT at h; split at h <;> try cases h
    · simp only [Bool.and_eq_true, Bool.not_eq_true'] at h
      obtain ⟨⟨rfl, h2⟩, h3⟩ := h
      exact PT.to (soAndT es ok _ h3 (by intro e; subst e; cases h2)).pt (by funext ρ st Q; rw [den])
    · simp only [Bool.and_eq_true, Bool.not_eq_true'] at h
      obtain ⟨⟨rfl, h2⟩, h3⟩ := h
      exact PT.to (soOrT es ok _ h3 (by intro e; subst e; cases h2)).pt (by funext ρ st Q; rw [den])
  | .cmp o a b, sc, X, ok, e, h => by
    unfold chT at h; split at h <;> try cases h
    simp only [Bool.and_eq_true, decide_eq_true_eq] at h
    obtain ⟨⟨⟨rfl, h2⟩, h3⟩, h4⟩ := h
    exact PT.to (s_cmpT (cmp_all ok.fx.K ok.fx.w ok.hu o) (soE a ok _ h3) (soE b ok _ h4) (mark_no h2)) (by funext ρ st Q; rw [den])
  | .cmp2 o o' a b c, sc, X, ok, e, h => by
    unfold chT at h; split at h <;> try cases h
    simp only [Bool.and_eq_true, decide_eq_true_eq] at h
    obtain ⟨⟨⟨⟨⟨rfl, rfl⟩, h2⟩, h3⟩, h4⟩, h5⟩ := h
    exact PT.to (s_cmp2T (cmp_all ok.fx.K ok.fx.w ok.hu o) (cmp_all ok.fx.K ok.fx.w ok.hu o') (soE a ok _ h3) (soE b ok _ h4) (soE c ok _ h5) (mark_no h2)) (by funext ρ st Q; rw [den])
  | .var i, sc, X, ok, e, h => by
    unfold chT at h; split at h <;> try cases h
    exact s_val (soE (.var i) ok _ (by unfold chE; exact h)) fun _ => rfl
  | .call f es, sc, X, ok, e, h => by
    unfold chT at h; split at h <;> try cases h
    simp only [Bool.and_eq_true, decide_eq_true_eq] at h
    obtain ⟨⟨⟨⟨rfl, h1⟩, h2⟩, h3⟩, h4⟩ := h
    exact s_val (call_any ok h1 h2 h3 h4 (soEs es ok _ h4)) fun _ => rfl
  | .mcl c m o es, sc, X, ok, e, h => by
    unfold chT at h; split at h <;> try cases h
    simp only [Bool.and_eq_true, decide_eq_true_eq] at h
    obtain ⟨⟨⟨⟨⟨⟨⟨rfl, h1⟩, h2⟩, h3⟩, h4⟩, h5⟩, h6⟩, h7⟩ := h
    exact s_val (mcl_any ok h2 h1 h3 h4 h5 (soE o ok _ h6) h7 (soEs es ok _ h7)) fun _ => rfl
  | .isi a ts, sc, X, ok, e, h => by
    unfold chT at h; split at h <;> try cases h
    · simp only [Bool.and_eq_true, decide_eq_true_eq] at h
      obtain ⟨⟨⟨⟨h1, h2⟩, h3⟩, h4⟩, h5⟩ := h
      exact s_val (PE.to (isi_1 ok (soE a ok _ h4) h1 h2 h3 h5) (by funext ρ st Q; rw [den] <;> (refine congrArg _ ?_; funext x st1; cases isTys ts (rsv st1 x) <;> rfl))) fun _ => rfl
    · simp only [Bool.and_eq_true, decide_eq_true_eq] at h
      obtain ⟨⟨⟨⟨h1, h2⟩, h3⟩, h4⟩, h5⟩ := h
      exact s_val (PE.to (isi_2 ok (soE a ok _ h4) h1 h2 h3 h5) (by funext ρ st Q; rw [den] <;> (refine congrArg _ ?_; funext x st1; cases isTys ts (rsv st1 x) <;> rfl))) fun _ => rfl
  | .bi b a, sc, X, ok, e, h => by
    unfold chT at h; split at h <;> try cases h
    simp only [Bool.and_eq_true, decide_eq_true_eq] at h
    obtain ⟨⟨⟨⟨h1, h2⟩, h3⟩, h4⟩, h5⟩ := h
    refine s_val ?_ fun _ => rfl
    by_cases hl : b = .len
    · subst hl; subst h1
      have hs := star1 (env := X.env) h3
      exact PE.to ((pe_callB (bi_lenA ok.fx.K ok.fx.w) (ok.gl h2) ok.bn (by decide +kernel) (pa_cons (soE a ok _ h4) pa_nil hs) (he := hs)).mono liftB) (by funext ρ st Q; rw [den])
    · exact PE.to (bi_any1 ok (soE a ok _ h4) h1 h2 h3 (by cases b <;> first | rfl | exact (hl rfl).elim | exact h5)) (by funext ρ st Q; rw [den])
  | .bl b, sc, X, ok, e, h => by
    unfold chT at h; split at h <;> try cases h
    exact s_val (soE (.bl b) ok _ (by unfold chE; exact h)) fun _ => rfl
  | .non, _, _, _, _, h => by unfold chT at h; cases h
  | .int _, _, _, _, _, h => by unfold chT at h; cases h
  | .str _, _, _, _, _, h => by unfold chT at h; cases h
  | .glo _, _, _, _, _, h => by unfold chT at h; cases h
  | .tup _, _, _, _, _, h => by unfold chT at h; cases h
  | .fr _, _, _, _, _, h => by unfold chT at h; cases h
  | .bx _, _, _, _, _, h => by unfold chT at h; cases h
  | .bin _ _ _, _, _, _, _, h => by unfold chT at h; cases h
  | .neg _, _, _, _, _, h => by unfold chT at h; cases h
  | .orv _ _, _, _, _, _, h => by unfold chT at h; cases h
  | .ite _ _ _, _, _, _, _, h => by unfold chT at h; cases h
  | .idx _ _, _, _, _, _, h => by unfold chT at h; cases h
  | .slc _ _ _, _, _, _, _, h => by unfold chT at h; cases h
  | .rev _, _, _, _, _, h => by unfold chT at h; cases h
  | .mx _ _ _, _, _, _, _, h => by unfold chT at h; cases h
  | .app _ _, _, _, _, _, h => by unfold chT at h; cases h
  | .pop _, _, _, _, _, h => by unfold chT at h; cases h
  | .popAt _ _, _, _, _, _, h => by unfold chT at h; cases h
  | .ins _ _ _, _, _, _, _, h => by unfold chT at h; cases h
  | .upper _, _, _, _, _, h => by unfold chT at h; cases h
  | .join _ _, _, _, _, _, h => by unfold chT at h; cases h
  | .get _ _, _, _, _, _, h => by unfold chT at h; cases h
  | .getd _ _ _, _, _, _, _, h => by unfold chT at h; cases h
  | .setd _ _ _, _, _, _, _, h => by unfold chT at h; cases h
  | .upd _ _, _, _, _, _, h => by unfold chT at h; cases h
  | .att _ _, _, _, _, _, h => by unfold chT at h; cases h
  | .new _ _, _, _, _, _, h => by unfold chT at h; cases h
  | .clv _ _, _, _, _, _, h => by unfold chT at h; cases h
  | .frz _, _, _, _, _, h => by unfold chT at h; cases h
theorem soAndT : ∀ (es : Es) {sc : Scope} {X : Cx}, Okk Γ W κ sc X → ∀ (l : List Expr) {pos : Pos}, chTs κ sc es l = true → l ≠ [] → PW X (.BoolOp .And l pos) (LT W (denB Γ X0 true es))
  | .nil, sc, X, ok, l, pos, h, hn => by
    unfold chTs at h; split at h <;> try cases h
    exact (hn rfl).elim
  | .cons e .nil, sc, X, ok, l, pos, h, hn => by
    unfold chTs at h; split at h <;> try cases h
    simp only [Bool.and_eq_true] at h
    obtain ⟨h2, h3⟩ := h
    unfold chTs at h3; split at h3 <;> try cases h3
    have := w_one (op := .And) (pos := pos) (soT e ok _ h2)
    have e : den Γ X0 e = denB Γ X0 true (.cons e .nil) := by funext ρ st Q; rw [denB]
    rw [← e]; exact this
  | .cons e (.cons e2 es), sc, X, ok, l, pos, h, hn => by
    unfold chTs at h; split at h <;> try cases h
    simp only [Bool.and_eq_true] at h
    obtain ⟨h2, h3⟩ := h
    rename_i x xs
    cases xs with
    | nil => simp [chTs] at h3
    | cons y ys =>
      have := w_and (pos := pos) (soT e ok _ h2) (soAndT (.cons e2 es) ok (y :: ys) (pos := pos) h3 (by simp))
      have e' : denB Γ X0 true (.cons e (.cons e2 es)) = fun ρ st Q => den Γ X0 e ρ st fun d st1 => ∃ t, d = .bl t ∧ (if t = true then denB Γ X0 true (.cons e2 es) ρ st1 Q else Q d st1) := by funext ρ st Q; rw [denB]
      rw [e']; exact this
theorem soOrT : ∀ (es : Es) {sc : Scope} {X : Cx}, Okk Γ W κ sc X → ∀ (l : List Expr) {pos : Pos}, chTs κ sc es l = true → l ≠ [] → PW X (.BoolOp .Or l pos) (LT W (denB Γ X0 false es))
  | .nil, sc, X, ok, l, pos, h, hn => by
    unfold chTs at h; split at h <;> try cases h
    exact (hn rfl).elim
  | .cons e .nil, sc, X, ok, l, pos, h, hn => by
    unfold chTs at h; split at h <;> try cases h
    simp only [Bool.and_eq_true] at h
    obtain ⟨h2, h3⟩ := h
    unfold chTs at h3; split at h3 <;> try cases h3
    have := w_one (op := .Or) (pos := pos) (soT e ok _ h2)
    have e : den Γ X0 e = denB Γ X0 false (.cons e .nil) := by funext ρ st Q; rw [denB]
    rw [← e]; exact this
  | .cons e (.cons e2 es), sc, X, ok, l, pos, h, hn => by
    unfold chTs at h; split at h <;> try cases h
    simp only [Bool.and_eq_true] at h
    obtain ⟨h2, h3⟩ := h
    rename_i x xs
    cases xs with
    | nil => simp [chTs] at h3
    | cons y ys =>
      have := w_or (pos := pos) (soT e ok _ h2) (soOrT (.cons e2 es) ok (y :: ys) (pos := pos) h3 (by simp))
      have e' : denB Γ X0 false (.cons e (.cons e2 es)) = fun ρ st Q => den Γ X0 e ρ st fun d st1 => ∃ t, d = .bl t ∧ (if t = false then denB Γ X0 false (.cons e2 es) ρ st1 Q else Q d st1) := by funext ρ st Q; rw [denB]
      rw [e']; exact this
theorem soP : ∀ (ir : P) {sc : Scope} {X : Cx}, Okk Γ W κ sc X → ∀ (e : Expr), chP κ sc ir e = true → PE X e (LP W (denP Γ X0 ir))
  | .disp es, sc, X, ok, e, h => by
    unfold chP at h; split at h <;> try cases h
    exact PE.toP (p_disp (soEs es ok _ h)) (by funext ρ st Q; rw [denP])
  | .cat a b, sc, X, ok, e, h => by
    unfold chP at h; split at h <;> try cases h
    simp only [Bool.and_eq_true] at h
    exact PE.toP (p_cat (soE a ok _ h.1) (soE b ok _ h.2)) (by funext ρ st Q; rw [denP])
  | .rep a b, sc, X, ok, e, h => by
    unfold chP at h; split at h <;> try cases h
    simp only [Bool.and_eq_true] at h
    exact PE.toP (p_rep (soE a ok _ h.1) (soE b ok _ h.2)) (by funext ρ st Q; rw [denP])
  | .slc a lo hi, sc, X, ok, e, h => by
    unfold chP at h; split at h <;> try cases h
    simp only [Bool.and_eq_true] at h
    exact PE.toP (p_slc ok.fx.K (soE a ok _ h.1.1) (soO lo ok _ h.1.2) (soO hi ok _ h.2)) (by funext ρ st Q; rw [denP])
  | .rev a, sc, X, ok, e, h => by
    unfold chP at h; split at h <;> try cases h
    simp only [Bool.and_eq_true, decide_eq_true_eq] at h
    obtain ⟨rfl, h2⟩ := h
    exact PE.toP (p_rev (soE a ok _ h2)) (by funext ρ st Q; rw [denP])
  | .list a, sc, X, ok, e, h => by
    unfold chP at h; split at h <;> try cases h
    simp only [Bool.and_eq_true, decide_eq_true_eq] at h
    obtain ⟨⟨⟨rfl, h2⟩, h3⟩, h4⟩ := h
    have hs := star1 (env := X.env) h3
    exact PE.toP ((pe_callTy (bi_list1 ok.fx.K) (ok.gl h2) ok.bn (by decide +kernel) (pa_cons (soE a ok _ h4) pa_nil hs) (he := hs)).mono liftN) (by funext ρ st Q; rw [denP])
  | .sorted a, sc, X, ok, e, h => by unfold chP at h; cases h
  | .comp own p it elt, sc, X, ok, e, h => by
    unfold chP at h; split at h <;> try cases h
    rename_i el tg iter scope pos
    simp only [Bool.and_eq_true, decide_eq_true_eq] at h
    obtain ⟨⟨⟨⟨⟨h1, h2⟩, h3⟩, h4⟩, h5⟩, h6⟩ := h
    refine PE.toP (p_comp (own := ownN κ.N own) (p := p) ok.fx.calm ok.ndX (soI it ok tg iter h5) (by rw [ok.hN, ok.hsc]; exact blkOk_by h1) (fun s H C cl fp => soPtB ok s H scope C cl fp p tg h2) (by rw [ownN_snd]; exact h3)
      (fun s H C cl fp => ts_nil) (fun s H C cl fp => soE elt (ok.blk s H scope C cl fp) el h6) (fold_no h4)) ?_
    funext ρ st Q
    rw [denP, ownN_snd]
    congr 1
    funext ds st1
    congr 1
    funext d st k
    unfold turn
    congr 1
    funext ρ1
    simp
  | .compif own p it c elt, sc, X, ok, e, h => by
    unfold chP at h; split at h <;> try cases h
    rename_i el tg iter t scope pos
    simp only [Bool.and_eq_true, decide_eq_true_eq] at h
    obtain ⟨⟨⟨⟨⟨⟨h1, h2⟩, h3⟩, h4⟩, h5⟩, h7⟩, h6⟩ := h
    refine PE.toP (p_comp (own := ownN κ.N own) (p := p) ok.fx.calm ok.ndX (soI it ok tg iter h5) (by rw [ok.hN, ok.hsc]; exact blkOk_by h1) (fun s H C cl fp => soPtB ok s H scope C cl fp p tg h2) (by rw [ownN_snd]; exact h3)
      (fun s H C cl fp => ts_one (soT c (ok.blk s H scope C cl fp) t h7)) (fun s H C cl fp => soE elt (ok.blk s H scope C cl fp) el h6) (fold_no h4)) ?_
    funext ρ st Q
    rw [denP, ownN_snd]
    rfl
theorem soO : ∀ (ir : Bd) {sc : Scope} {X : Cx}, Okk Γ W κ sc X → ∀ (e : Option Expr), chO κ sc ir e = true → PO X e (LO W (denO Γ X0 ir))
  | .no, sc, X, ok, none, h => PO.to o_none (by funext ρ st Q; rw [denO])
  | .no, sc, X, ok, some _, h => by simp [chO] at h
  | .at a, sc, X, ok, none, h => by simp [chO] at h
  | .at a, sc, X, ok, some x, h => by
    unfold chO at h
    exact PO.to (o_some (soE a ok _ h)) (by funext ρ st Q; rw [denO])
theorem soEs : ∀ (ir : Es) {sc : Scope} {X : Cx}, Okk Γ W κ sc X → ∀ (e : List Expr), chEs κ sc ir e = true → PA X e (LA W (denEs Γ X0 ir))
  | .nil, sc, X, ok, l, h => by
    unfold chEs at h; split at h <;> try cases h
    exact PA.to s_nil (by funext ρ st Q; rw [denEs])
  | .cons a as, sc, X, ok, l, h => by
    unfold chEs at h; split at h <;> try cases h
    simp only [Bool.and_eq_true] at h
    exact PA.to (s_cons (soE a ok _ h.1.2) (soEs as ok _ h.2) (star_pl h.1.1)) (by funext ρ st Q; rw [denEs])
theorem soI : ∀ (ir : It) {sc : Scope} {X : Cx}, Okk Γ W κ sc X → ∀ (tg e : Expr), chI κ sc ir tg e = true → PI X tg e (LI W (denI Γ X0 ir))
  | .of a, sc, X, ok, tg, e, h => by
    unfold chI at h
    exact PI.to (i_of ok.fx.K (soE a ok _ h)) (by funext ρ st Q; rw [denI] <;> (refine congrArg _ ?_; funext d st1; cases items1 d <;> rfl))
  | .range1 a, sc, X, ok, tg, e, h => by
    unfold chI at h; split at h <;> try cases h
    simp only [Bool.and_eq_true, decide_eq_true_eq] at h
    obtain ⟨⟨⟨rfl, h2⟩, h3⟩, h4⟩ := h
    exact PI.to (i_range1 (ok.gl h2) ok.bn (soE a ok _ h4) (star1 h3)) (by funext ρ st Q; rw [denI])
  | .range2 a b, sc, X, ok, tg, e, h => by
    unfold chI at h; split at h <;> try cases h
    simp only [Bool.and_eq_true, decide_eq_true_eq] at h
    obtain ⟨⟨⟨⟨⟨rfl, h2⟩, h3⟩, h4⟩, h5⟩, h6⟩ := h
    exact PI.to (i_range2 (ok.gl h2) ok.bn (soE a ok _ h5) (soE b ok _ h6) (star2 h3 h4) (star1 h4)) (by funext ρ st Q; rw [denI])
  | .zip a b, sc, X, ok, tg, e, h => by
    unfold chI at h; split at h <;> try cases h
    simp only [Bool.and_eq_true, decide_eq_true_eq] at h
    obtain ⟨⟨⟨⟨⟨rfl, h2⟩, h3⟩, h4⟩, h5⟩, h6⟩ := h
    exact PI.to (i_zip ok.fx.K (ok.gl h2) ok.bn (soE a ok _ h5) (soE b ok _ h6) (by rw [star2 h3 h4, star1 h4]) (star1 h4)) (by funext ρ st Q; rw [denI])
  | .enum a, sc, X, ok, tg, e, h => by unfold chI at h; cases h
  | .items a, sc, X, ok, tg, e, h => by unfold chI at h; cases h
  | .keys a, sc, X, ok, tg, e, h => by unfold chI at h; cases h
end
end
end G
/-! The checker of statements; targets; freezing. -/
namespace G
open PySem PySem.Spec PyProof.Rows L2 C8
/-! ### the checker -/
def isComp : Expr → Bool | .ListComp _ _ _ _ => true | .SetComp _ _ _ _ => true | .DictComp _ _ _ _ _ => true | _ => false
def okC : Expr → Bool | .SetComp _ _ _ _ => false | .DictComp _ _ _ _ _ => false | _ => true
/-- name = [..] is stored inside the comprehension's block -/
def swapB (sc : Scope) (x : Str) (px : Pos) : Expr → Bool
  | .ListComp _ _ s p => (match sc.names.lookup x with | some .local => true | _ => false) && px.line == p.line && !(s.names.any fun (n, k) => n == x && (k == .local || k == .cell))
  | _ => false
def tyB (sc : Scope) (l : Nat) : Expr → Bool | .Name x p => (match sc.names.lookup x with | some .local => true | _ => false) && p.line == l | _ => false
/-- a, b = x, y is stored in the usual order -/
def ordB (sc : Scope) (ts : List Expr) : Expr → Bool
  | .Tuple vs _ _ => !(ts.length == 2 || ts.length == 3) || vs.all (foldedForSure 8) || !ts.all (tyB sc ((ts.head?.map (·.pos.line)).getD 0))
  | _ => true
def hereB (sc : Scope) (x : Str) : Bool := match sc.names.lookup x with | some .local => true | _ => false
def docB : Stmt → Bool | .Expr (.Constant (.str _) _ _) _ => true | .Pass _ => true | _ => false
mutual
def chS (κ : Kx) (sc : Scope) : S → Stmt → Bool
  | .exp a, s => match s with | .Expr e _ => !isComp e && chE κ sc a e | _ => false
  | .asg p a, s => match s with
    | .Assign [.Name x px] e _ => (match p with | .var i => nmB κ i x && locB sc x | _ => false) && (if swapB sc x px e then (match a with | .fr q => chP κ sc q e && cmpB q | .bx q => chP κ sc q e && cmpB q | _ => false) else okC e && chE κ sc a e)
    | .Assign [.Tuple ts k tp] e _ => chPt κ sc p (.Tuple ts k tp) && ordB sc ts e && chE κ sc a e
    | _ => false
  | .par is as, s => match s with
    | .Assign [.Tuple [.Name x px, .Name y py] _ _] (.Tuple vs _ _) _ => (match is with | [i, j] => nmB κ i x && nmB κ j y && decide (i ≠ j) | _ => false) && hereB sc x && hereB sc y && decide (x ≠ y) && py.line == px.line &&
        decide (vs.length = 2) && !vs.all (foldedForSure 8) && !vs.all (constantsAlone 8) && chEs κ sc as vs
    | .Assign [.Tuple [.Name x px, .Name y py, .Name z pz] _ _] (.Tuple vs _ _) _ => (match is with | [i, j, l] => nmB κ i x && nmB κ j y && nmB κ l z && decide (i ≠ j) && decide (i ≠ l) && decide (j ≠ l) | _ => false) && hereB sc x && hereB sc y && hereB sc z && decide (x ≠ y) && decide (x ≠ z) && decide (y ≠ z) &&
        py.line == px.line && pz.line == px.line && decide (vs.length = 3) && !vs.all (foldedForSure 8) && !vs.all (constantsAlone 8) && chEs κ sc as vs
    | _ => false
  | .sto o i a, s => match s with | .Assign [.Subscript x y _] e _ => nslB y && chE κ sc a e && chE κ sc o x && chE κ sc i y | _ => false
  | .slst o lo hi a, s => match s with | .Assign [.Subscript x (.Slice (some l) (some h) none _) _] e _ => chE κ sc a e && chE κ sc o x && chE κ sc lo l && chE κ sc hi h | _ => false
  | .fld o f a, s => match s with | .Assign [.Attribute x g _] e _ => decide (f = g) && chE κ sc a e && chE κ sc o x | _ => false
  | .aug i op a, s => match s with | .AugAssign (.Name x _) op' e _ => decide (op = op') && (match op with | .Add => true | .Sub => true | _ => false) && nmB κ i x && locB sc x && chE κ sc a e | _ => false
  | .augs _ _ _ _, _ => false
  | .ret a, s => match s with | .Return (some e) _ => chE κ sc a e | _ => false
  | .retN, s => match s with | .Return none _ => true | _ => false
  | .ife c a b, s => match s with | .If t x y _ => chT κ sc c t && chSs κ sc a x && chSs κ sc b y | _ => false
  | .for p it b, s => match s with | .For tg e x [] _ => chPt κ sc p tg && chI κ sc it tg e && nsetB e && chSs κ sc b x | _ => false
  | .whl c b, s => match s with | .While t x [] _ => chT κ sc c t && chSs κ sc b x | _ => false
  | .brk, s => match s with | .Break _ => true | _ => false
  | .cnt, s => match s with | .Continue _ => true | _ => false
  | .pass, s => docB s
  | .never, _ => true
  | .gfz _, _ => false
def chSs (κ : Kx) (sc : Scope) : Ss → List Stmt → Bool
  | .nil, l => match l with | [] => true | _ => false
  | .cons s ss, l => match s with
    | .gfz _ => chSs κ sc ss l
    | s => match l with | x :: xs => chS κ sc s x && chSs κ sc ss xs | [] => false
def cmpB : P → Bool | .comp _ _ _ _ => true | .compif _ _ _ _ _ => true | _ => false
end

end G
/-! The checker is right: statements. -/
namespace G
open PySem PySem.Spec PyProof.Rows L2 C8
/-- at a def's own level -/
structure Oks (Γ : Ctx) (W : Wd) (κ : Kx) (sc : Scope) (X : Cx) : Prop extends Okk Γ W κ sc X where
  kind : sc.kind = .function
  pas : PassesOwn (model X.prog X.w) X.A X.env X.xe
  fnT : ∀ x, X.fn x = true
/-- a statement's reading lifted -/
def LSt (W : Wd) (m : Kn → Env → Store → Prop) : TS := fun D σ H => ∃ B ρ st K, R W B ρ st σ H ∧ m K ρ st ∧
  (∀ ρ' st' σ' H', K.nx ρ' st' → R W B ρ' st' σ' H' → Grow st H st' H' → D.nx σ' H') ∧
  (∀ d st' v H', K.rt d st' → Rep W B st' H' v d → RH W B st' H' → Grow st H st' H' → D.rt v H') ∧
  (∀ ρ' st' σ' H', K.bk ρ' st' → R W B ρ' st' σ' H' → Grow st H st' H' → D.bk σ' H') ∧
  (∀ ρ' st' σ' H', K.ct ρ' st' → R W B ρ' st' σ' H' → Grow st H st' H' → D.ct σ' H')
theorem _root_.L2.PS.to {X : Cx} {W : Wd} {e : Stmt} {m m' : Kn → Env → Store → Prop} (h : PS X e (LSt W m)) (i : m' = m) : PS X e (LSt W m') := by rw [i]; exact h
theorem _root_.L2.PSs.to {X : Cx} {W : Wd} {e : List Stmt} {m m' : Kn → Env → Store → Prop} (h : PSs X e (LSt W m)) (i : m' = m) : PSs X e (LSt W m') := by rw [i]; exact h
section
variable {X : Cx} {W : Wd} {pos : Pos}
theorem t_nil : PSs X [] (LSt W fun K ρ st => K.nx ρ st) := pss_nil.mono fun D σ H ⟨B, ρ, st, K, r, h, q, _⟩ => q _ _ _ _ h r (Grow.refl _ _)
theorem t_cons {s : Stmt} {ss : List Stmt} {m ms : Kn → Env → Store → Prop} (h1 : PS X s (LSt W m)) (h2 : PSs X ss (LSt W ms)) : PSs X (s :: ss) (LSt W fun K ρ st => m { K with nx := fun ρ1 st1 => ms K ρ1 st1 } ρ st) := by
  refine (pss_cons h1 h2).mono fun D σ H ⟨B, ρ, st, K, r, h, q1, q2, q3, q4⟩ => ?_
  refine ⟨B, ρ, st, _, r, h, fun ρ' st' σ' H' k r' g => ?_, q2, q3, q4⟩
  exact ⟨B, ρ', st', K, r', k, fun a b c d e f g' => q1 a b c d e f (g.trans g'), fun a b c d e f g' i => q2 a b c d e f g' (g.trans i), fun a b c d e f g' => q3 a b c d e f (g.trans g'), fun a b c d e f g' => q4 a b c d e f (g.trans g')⟩
theorem t_exp {e : Expr} {m : M} (he : PE X e (LE W m)) (hs : swapsWith e none pos.line X.env = pure false) : PS X (.Expr e pos) (LSt W fun K ρ st => m ρ st fun _ st1 => K.nx ρ st1) :=
  (ps_expr he hs).mono fun D σ H ⟨B, ρ, st, K, r, h, q, _⟩ => ⟨B, ρ, st, _, r, h, fun d st1 v H1 h1 r1 o1 g1 => q _ _ _ _ h1 (r.step g1 o1) g1⟩
theorem t_set {i : Nat} {m : M} : ∀ (D : Ends) σ H, LSt W (fun K ρ st => m ρ st fun d st1 => K.nx (ρ.set i (some d)) st1) D σ H → tAsg (LE W m) (gName i) D σ H := fun D σ H ⟨B, ρ, st, K, r, h, q, _⟩ =>
  ⟨B, ρ, st, _, r, h, fun d st1 v H1 h1 r1 o1 g1 => q _ _ _ _ h1 ((r.step g1 o1).set i r1) g1⟩
theorem t_asg {p : Pt} {m : M} : ∀ (D : Ends) σ H, LSt W (fun K ρ st => m ρ st fun d st1 => asg p d ρ fun ρ1 => K.nx ρ1 st1) D σ H → tAsg (LE W m) (LG W p) D σ H := fun D σ H ⟨B, ρ, st, K, r, h, q, _⟩ =>
  ⟨B, ρ, st, _, r, h, fun d st1 v H1 h1 r1 o1 g1 => ⟨B, ρ, st1, d, _, r.step g1 o1, r1, h1, fun ρ' σ' k r' _ => q _ _ _ _ k r' g1⟩⟩
theorem fr_lift {m : MP} : ∀ σ H Q, LE W (fun ρ st Q => m ρ st fun o st1 => match o with
    | .lst ds => Q (.lst ds) st1
    | .dct kvs => Q (.dct kvs) st1
    | _ => False) σ H Q → LP W m σ H Q := by
  intro σ H Q ⟨B, ρ, st, P, r, h, q⟩
  refine ⟨B, ρ, st, _, r, h, fun o st1 H1 p u h1 hp n o1 g1 => ?_⟩
  cases o with
  | lst ds =>
    obtain ⟨vs, rfl, l⟩ := n
    exact q _ _ _ _ h1 (Rep.newLst o1 hp l) (o1.same (same_upd hp)) (g1.trans (Grow.same (same_upd hp)))
  | dct kvs =>
    obtain ⟨es, rfl, hs, l, nd⟩ := n
    exact q _ _ _ _ h1 (.dct (o1.free hp) upd_same hs (l.grow (Grow.same (same_upd hp))) nd) (o1.same (same_upd hp)) (g1.trans (Grow.same (same_upd hp)))
  | ins _ _ => exact n.elim
theorem bx_lift {m : MP} : ∀ σ H Q, LE W (fun ρ st Q => m ρ st fun o st1 => ∀ a, st1 a = none → Q (.loc a) (st1.set a o)) σ H Q → LP W m σ H Q := by
  intro σ H Q ⟨B, ρ, st, P, r, h, q⟩
  refine ⟨B, ρ, st, _, r, h, fun o st1 H1 p u h1 hp n o1 g1 => ?_⟩
  obtain ⟨o2, g2⟩ := o1.alloc (u := u) (o' := o) hp fun g => by
    cases o with
    | lst ds => obtain ⟨vs, rfl, l⟩ := n; exact ⟨vs, upd_same, l.grow g⟩
    | dct kvs => obtain ⟨es, rfl, hs, l, nd⟩ := n; exact ⟨es, upd_same, hs, l.grow g, nd⟩
    | ins _ _ => exact n.elim
  exact q _ _ _ _ (h1 p (o1.free hp).1) (.loc p) o2 (g1.trans g2)
theorem t_ret {e : Expr} {m : M} (he : PE X e (LE W m)) : PS X (.Return (some e) pos) (LSt W fun K ρ st => m ρ st K.rt) :=
  (ps_ret he).mono fun D σ H ⟨B, ρ, st, K, r, h, q1, q2, _⟩ => ⟨B, ρ, st, _, r, h, q2⟩
theorem t_retN : PS X (.Return none pos) (LSt W fun K _ st => K.rt .non st) := ps_retN.mono fun D σ H ⟨B, ρ, st, K, r, h, q1, q2, _⟩ => q2 _ _ _ _ h .non r.ob (Grow.refl _ _)
theorem t_if {c : Expr} {a b : List Stmt} {mc : M} {ma mb : Kn → Env → Store → Prop} (hc : PT X c (LT W mc)) (ha : PSs X a (LSt W ma)) (hb : PSs X b (LSt W mb)) :
    PS X (.If c a b pos) (LSt W fun K ρ st => mc ρ st fun d st1 => ∃ t, d = .bl t ∧ (if t = true then ma K ρ st1 else mb K ρ st1)) := by
  refine (ps_if hc ha hb).mono fun D σ H ⟨B, ρ, st, K, r, h, q1, q2, q3, q4⟩ => ?_
  refine ⟨B, ρ, st, _, r, h, fun d st1 H1 ⟨t, e, k⟩ o1 g1 => ⟨t, e, ?_⟩⟩
  have mk : ∀ {m : Kn → Env → Store → Prop}, m K ρ st1 → LSt W m D σ H1 := fun k => ⟨B, ρ, st1, K, r.step g1 o1, k, fun a b c d e f g' => q1 a b c d e f (g1.trans g'), fun a b c d e f g' i => q2 a b c d e f g' (g1.trans i), fun a b c d e f g' => q3 a b c d e f (g1.trans g'), fun a b c d e f g' => q4 a b c d e f (g1.trans g')⟩
  cases t with
  | true => simp only [if_true] at k ⊢; exact mk k
  | false => simp only [Bool.false_eq_true, if_false] at k ⊢; exact mk k
theorem t_brk : PS X (.Break pos) (LSt W fun K ρ st => K.bk ρ st) := ps_break.mono fun D σ H ⟨B, ρ, st, K, r, h, q1, q2, q3, q4⟩ => q3 _ _ _ _ h r (Grow.refl _ _)
theorem t_cnt : PS X (.Continue pos) (LSt W fun K ρ st => K.ct ρ st) := ps_continue.mono fun D σ H ⟨B, ρ, st, K, r, h, q1, q2, q3, q4⟩ => q4 _ _ _ _ h r (Grow.refl _ _)
theorem nx_lift : ∀ (D : Ends) σ H, LSt W (fun K ρ st => K.nx ρ st) D σ H → tNext D σ H := fun D σ H ⟨B, ρ, st, K, r, h, q, _⟩ => q _ _ _ _ h r (Grow.refl _ _)
theorem t_never {s : Stmt} : PS X s (LSt W fun _ _ _ => False) := ps_never.mono fun D σ H ⟨B, ρ, st, K, r, h, q, _⟩ => h.elim
/-- freezing a name's value -/
theorem t_gfz {ss : List Stmt} {i : Nat} {ms : Kn → Env → Store → Prop} (h : PSs X ss (LSt W ms)) : PSs X ss (LSt W fun K ρ st => match ρ[i]? with
    | some (some x) => ∃ st2 y, (∀ a o, st2 a = some o → st a = some o) ∧ Fz st st2 x y ∧ ms K (ρ.set i (some y)) st2
    | _ => False) := by
  refine h.mono fun D σ H ⟨B, ρ, st, K, r, h, q1, q2, q3, q4⟩ => ?_
  dsimp only at h
  split at h
  · rename_i x e
    obtain ⟨st2, y, l, z, h1⟩ := h
    obtain ⟨o2, g⟩ := r.ob.less l
    obtain ⟨v, e1, rv⟩ := r.var i x e
    have r2 := z.rep r.ob l rv
    have R2 := (r.step g o2).set i r2
    have es : σ.set i (some v) = σ := by
      apply List.ext_getElem?
      intro j
      by_cases hj : i = j
      · subst hj
        rw [e1]
        exact List.getElem?_set_self (by
          rcases Nat.lt_or_ge i σ.length with q | q
          · exact q
          · rw [List.getElem?_eq_none q] at e1; cases e1)
      · rw [List.getElem?_set_ne hj]
    rw [es] at R2
    exact ⟨B, _, st2, K, R2, h1, fun a b c d e f g' => q1 a b c d e f (g.trans g'), fun a b c d e f g' i => q2 a b c d e f g' (g.trans i), fun a b c d e f g' => q3 a b c d e f (g.trans g'), fun a b c d e f g' => q4 a b c d e f (g.trans g')⟩
  · exact h.elim
/-! for, while -/
theorem t_for {tg e : Expr} {body : List Stmt} {mi : MA} {p : Pt} {mb : Env → Store → Kn → Prop} (hp : PassesOwn (model X.prog X.w) X.A X.env X.xe) (hc : X.calm = true) (hi : PI X tg e (LI W mi)) (hg : PG X tg (LG W p)) (hb : PSs X body (LSt W fun K ρ st => mb ρ st K))
    (hs : ∀ x, foldedSetIterable e X.env x = pure x) : PS X (.For tg e body [] pos) (LSt W fun K ρ st => mi ρ st fun ds st1 => forL p mb K ds ρ st1) := by
  refine (ps_for hp hc hi hg hb hs).mono fun D σ H ⟨B, ρ, st, K, r, h, q1, q2, q3, q4⟩ => ?_
  refine ⟨B, ρ, st, _, r, h, fun ds st1 J H1 h1 wk o1 g1 => ?_⟩
  refine ⟨fun i m σ' H' => i ≤ ds.length ∧ m = ds.length - i ∧ ∃ ρ' st', R W B ρ' st' σ' H' ∧ Grow st1 H1 st' H' ∧ forL p mb K (ds.drop i) ρ' st', ⟨ds.length, Nat.zero_le _, rfl, ρ, st1, r.step g1 o1, Grow.refl _ _, h1⟩, ?_⟩
  rintro i m σ' H' ⟨hle, rfl, ρ', st', r', g', hf⟩
  obtain ⟨wg, ws, wy⟩ := wk B st' H' (fun a z => .inl z) g'.b r'.ob
  by_cases hlt : i < ds.length
  · refine .inr ⟨wg i hlt, fun σ2 H2 => ∃ ρ2 st2, R W B ρ2 st2 σ2 H2 ∧ Grow st1 H1 st2 H2 ∧ forL p mb K (ds.drop (i + 1)) ρ2 st2, fun σ2 H2 ⟨ρ2, st2, z⟩ => ⟨ds.length - (i + 1), by omega, hlt, rfl, ρ2, st2, z⟩, fun x H3 hy => ?_⟩
    have hdi : ds[i]? = some ds[i] := List.getElem?_eq_getElem hlt
    obtain ⟨rx, sm⟩ := wy i ds[i] x H3 hdi hy
    have hdr : ds.drop i = ds[i] :: ds.drop (i + 1) := List.drop_eq_getElem_cons hlt
    rw [hdr] at hf
    refine ⟨B, ρ', st', ds[i], _, r'.same sm, rx, hf, fun ρ1 σ1 hm r4 _ => ?_⟩
    have g4 : Grow st1 H1 st' H3 := g'.trans (Grow.same sm)
    exact ⟨B, ρ1, st', _, r4, hm, fun a b c d e f g => ⟨a, b, f, g4.trans g, e⟩, fun a b c d e f g' i => q2 a b c d e f g' (g1.trans (g4.trans i)), fun a b c d e f g => q1 a b c d e f (g1.trans (g4.trans g)), fun a b c d e f g => ⟨a, b, f, g4.trans g, e⟩⟩
  · have e : i = ds.length := by omega
    subst e
    rw [List.drop_length] at hf
    exact .inl ⟨ws, q1 _ _ _ _ hf r' (g1.trans g')⟩
theorem t_while {c : Expr} {body : List Stmt} {mc : M} {mb : Env → Store → Kn → Prop} (hp : PassesOwn (model X.prog X.w) X.A X.env X.xe) (hc : PT X c (LT W mc)) (hb : PSs X body (LSt W fun K ρ st => mb ρ st K)) :
    PS X (.While c body [] pos) (LSt W fun K ρ st => ∃ n, whlN mc mb K n ρ st) := by
  refine (ps_while hp hc hb).mono fun D σ H ⟨B, ρ, st, K, r, ⟨n, h⟩, q1, q2, q3, q4⟩ => ?_
  refine ⟨fun m σ' H' => ∃ ρ' st', R W B ρ' st' σ' H' ∧ Grow st H st' H' ∧ whlN mc mb K m ρ' st', ⟨n, ρ, st, r, Grow.refl _ _, h⟩, ?_⟩
  rintro m σ' H' ⟨ρ', st', r', g', hw⟩
  cases m with
  | zero => exact hw.elim
  | succ m =>
    refine ⟨B, ρ', st', _, r', hw, fun d st1 H1 ⟨b, e, k⟩ o1 g1 => ⟨b, e, ?_⟩⟩
    cases b with
    | true =>
      simp only [if_true] at k ⊢
      refine ⟨fun σ2 H2 => ∃ ρ2 st2, R W B ρ2 st2 σ2 H2 ∧ Grow st H st2 H2 ∧ whlN mc mb K m ρ2 st2, fun σ2 H2 z => ⟨m, by omega, z⟩, ?_⟩
      have g4 : Grow st H st1 H1 := g'.trans g1
      exact ⟨B, ρ', st1, _, r'.step g1 o1, k, fun a b c d e f g => ⟨a, b, f, g4.trans g, e⟩, fun a b c d e f g' i => q2 a b c d e f g' (g4.trans i), fun a b c d e f g => q1 a b c d e f (g4.trans g), fun a b c d e f g => ⟨a, b, f, g4.trans g, e⟩⟩
    | false =>
      simp only [Bool.false_eq_true, if_false] at k ⊢
      exact q1 _ _ _ _ k (r'.step g1 o1) (g'.trans g1)
/-! stores -/
theorem t_sto {o i e : Expr} {mo mi me : M} {p : Pos} (hK : X.K = W.K) (hw : X.w = W.w) (hu : X.A.units + 64 < cLine) (he : PE X e (LE W me)) (ho : PE X o (LE W mo)) (hi : PE X i (LE W mi)) (hn : nslB i = true) :
    PS X (.Assign [.Subscript o i p] e pos) (LSt W fun K ρ st => me ρ st fun d st1 => mo ρ st1 fun x st2 => mi ρ st2 fun y st3 => ∃ a ob, x = .loc a ∧ st3 a = some ob ∧ stoR ob y d fun ob' => K.nx ρ (st3.set a ob')) := by
  have hset : PSet X (fun o i v H Q => rSetL o i v H Q ∨ (∃ (B : Addr → Prop) (st : Store) (a : Addr) (kvs : List (D × D)) (y d : D), o = .ref a ∧ RH W B st H ∧ st a = some (.dct kvs) ∧ Rep W B st H i y ∧ Rep W B st H v d ∧ isKey y = true ∧ kvs.length < sizeLine ∧ ∀ H', RH W B (st.set a (.dct (G.put kvs y d))) H' → Grow st H (st.set a (.dct (G.put kvs y d))) H' → Q H')) := fun pins s σ H o i v ov iv u Q I ro ri rv h => h.elim (fun h => set_list pins s σ H o i v ov iv u Q I ro ri rv h) (fun h => set_dct hK hw hu pins s σ H o i v ov iv u Q I ro ri rv h)
  refine (ps_asg he (pg_sub ho hi hset (by intro v; cases i <;> first | rfl | cases hn)) (by cases e <;> rfl) (by cases e <;> rfl)).mono fun D σ H ⟨B, ρ, st, K, r, h, q1, _⟩ => ?_
  refine ⟨B, ρ, st, _, r, h, fun d1 st1 v1 H1 h1 r1 o1 g1 => ⟨B, ρ, st1, _, r.step g1 o1, h1, fun d2 st2 v2 H2 h2 r2 o2 g2 => ?_⟩⟩
  refine ⟨B, ρ, st2, _, r.step (g1.trans g2) o2, h2, fun d3 st3 v3 H3 ⟨a, ob, e1, e2, h3⟩ r3 o3 g3 => ?_⟩
  subst e1
  cases r2
  cases ob with
  | lst xs =>
    obtain ⟨j, n, e3, e4, h3⟩ := h3
    subst e3
    cases r3
    obtain ⟨us, w2, l2⟩ := o3.ob _ _ e2
    obtain ⟨o4, g4⟩ := setL o3 e2 (l2.set (r1.grow (g2.trans g3)) n)
    have gg := g1.trans (g2.trans (g3.trans g4))
    exact .inl ⟨a, us, j, n, rfl, rfl, w2, by rw [l2.length]; exact e4, q1 _ _ _ _ h3 (r.step gg o4) gg⟩
  | dct kvs =>
    obtain ⟨hy, hz, h3⟩ := h3
    refine .inr ⟨B, st3, a, kvs, d3, d1, rfl, o3, e2, r3, r1.grow (g2.trans g3), hy, hz, fun H4 o4 g4 => ?_⟩
    have gg := g1.trans (g2.trans (g3.trans g4))
    exact q1 _ _ _ _ h3 (r.step gg o4) gg
  | ins c fs => exact h3.elim
theorem t_fld {o e : Expr} {mo me : M} {f : Str} {cf : Str → Str → Bool} {p : Pos} (hcf : ∀ c C, cf c f = true → W.cls c = some C → Cls X.K C ∧ NoAttr X.K C f) (he : PE X e (LE W me)) (ho : PE X o (LE W mo)) :
    PS X (.Assign [.Attribute o f p] e pos) (LSt W fun K ρ st => me ρ st fun d st1 => mo ρ st1 fun x st2 => ∃ a c fs, x = .loc a ∧ st2 a = some (.ins c fs) ∧ cf c f = true ∧ fs.length < 100 ∧ K.nx ρ (st2.set a (.ins c (G.putF f d fs)))) := by
  refine (ps_fld ho he (by cases e <;> rfl)).mono fun D σ H ⟨B, ρ, st, K, r, h, q1, _⟩ => ?_
  refine ⟨B, ρ, st, _, r, h, fun d1 st1 v1 H1 h1 r1 o1 g1 => ⟨B, ρ, st1, _, r.step g1 o1, h1, fun d2 st2 v2 H2 ⟨a, c, fs, e1, e2, e3, e4, h2⟩ r2 o2 g2 => ?_⟩⟩
  subst e1
  cases r2
  obtain ⟨C, dx, gs, w, k, l⟩ := o2.ob _ _ e2
  obtain ⟨c1, c2⟩ := hcf c C e3 k
  obtain ⟨o4, g4⟩ := o2.write (u := .ins C dx (L2.putF f v1 gs)) (o' := .ins c (G.putF f d1 fs)) e2 fun g => ⟨C, dx, _, upd_same, k, (l.grow g).put ((r1.grow g2).grow g)⟩
  have gg := g1.trans (g2.trans g4)
  exact ⟨a, C, dx, gs, rfl, w, c1, c2, by rw [l.length]; omega, q1 _ _ _ _ h2 (r.step gg o4) gg⟩
theorem t_aug {i : Nat} {x : Str} {e : Expr} {me : M} {op : Operator} {p : Pos} (hN : X.N.Nodup) (hi : X.N[i]? = some x) (hx : Loc X.env.scope x) (hf : X.fn x = true) (he : PE X e (LE W me)) (ho : op = .Add ∨ op = .Sub) :
    PS X (.AugAssign (.Name x p) op e pos) (LSt W fun K ρ st => match ρ[i]? with
    | some (some x) => me ρ st fun y st1 => ∃ m n, x = .int m ∧ y = .int n ∧ opR op x y fun z => K.nx (ρ.set i (some z)) st1
    | _ => False) := by
  rcases ho with rfl | rfl
  · refine (ps_aug hN hi hx he ip_add (.inl hf)).mono fun D σ H ⟨B, ρ, st, K, r, h, q1, _⟩ => ?_
    dsimp only at h
    split at h
    · rename_i d e
      obtain ⟨v, e1, rv⟩ := r.var i d e
      refine ⟨v, e1, B, ρ, st, _, r, h, fun d1 st1 v1 H1 ⟨m, n, e2, e3, h1⟩ r1 o1 g1 => ?_⟩
      subst e2 e3
      cases rv; cases r1
      exact ⟨m, n, rfl, rfl, q1 _ _ _ _ h1 ((r.step g1 o1).set i (.int _)) g1⟩
    · exact h.elim
  · refine (ps_aug hN hi hx he ip_sub (.inl hf)).mono fun D σ H ⟨B, ρ, st, K, r, h, q1, _⟩ => ?_
    dsimp only at h
    split at h
    · rename_i d e
      obtain ⟨v, e1, rv⟩ := r.var i d e
      refine ⟨v, e1, B, ρ, st, _, r, h, fun d1 st1 v1 H1 ⟨m, n, e2, e3, h1⟩ r1 o1 g1 => ?_⟩
      subst e2 e3
      cases rv; cases r1
      exact ⟨m, n, rfl, rfl, q1 _ _ _ _ h1 ((r.step g1 o1).set i (.int _)) g1⟩
    · exact h.elim
end
end G
/-! xs[a:c] = ys, c behind the end or not. -/
namespace G
open PySem PySem.Spec PyProof.Rows L2 C8
section
variable {prog : Program} {w : World} {A : Around} {E : Value → Shared → Prop} {s : Shared}
theorem bounds_clip {a c n : Nat} (ha : a ≤ n) : sliceBounds (some (a : Int)) (some (c : Int)) none n = ((a : Int), ((min c n : Nat) : Int), 1) := by
  have z : ∀ m : Nat, ¬ ((m : Int) < 0) := fun m => by omega
  simp only [sliceBounds, Option.getD_none, z, if_false, show (1 : Int) > 0 from by decide, if_true]; congr 1
  · omega
  · congr 1; omega
/-- xs[a:c] = new at the machine: c is cut to the length -/
theorem setItem_clip {at_ from_ sl : Addr} {old new : Array Value} {m m2 : Nat} {vl vu : Value} {a c : Nat} {Q : Unit → Shared → Prop}
    (e1 : s.heap.get? at_ = some { cls := .type "list", data := .seq old m }) (e2 : s.heap.get? from_ = some { cls := .type "list", data := .seq new m2 }) (ne : at_ ≠ from_)
    (hs : s.heap.IsSliceOf sl vl vu .none) (pl : IsPart vl (some (a : Int))) (pu : IsPart vu (some (c : Int))) (hac : a ≤ c) (ha : a ≤ old.size)
    (room : old.size + new.size ≤ sizeLine) (fin : Q () { s with heap := s.heap.update at_ (Obj.mapSeq fun xs => xs.extract 0 a ++ new ++ xs.extract (min c old.size) xs.size) }) :
    wpAny (model prog w) A (setItem (.ref at_) (.ref sl) (.ref from_)) Q E s := by
  have l1 : s.heap.IsList at_ old := PySem.IsL.isList e1; have l2 : s.heap.IsList from_ new := PySem.IsL.isList e2
  obtain ⟨os, g1, g2, g3⟩ := id hs
  have ty : s.TypeIs (.ref sl) "slice" := ⟨os, g1, g2⟩
  have apart : Builtin.List.listSameRef (.ref at_) (.ref from_) = false := by unfold Builtin.List.listSameRef; exact beq_eq_false_iff_ne.mpr ne
  have top_ : (max (a : Int) ((min c old.size : Nat) : Int)).toNat = min c old.size := by omega
  have fits : ((fun xs : Array Value => xs.extract 0 a ++ new ++ xs.extract (min c old.size) xs.size) old).size ≤ sizeLine + 1 := by simp only [Array.size_append, Array.size_extract]; omega
  unfold setItem; (try with_reducible refine wpAny_holding ?_); (first | refine wpAny_bind (wpAny_pure ?_) | skip)
  refine wpAny_bind (wpAny_sequenceKey l1.typeIs (by decide) (wpAny_bind (wpAny_callSpecial?_slot (name := Str.ofString "__setitem__") l1.typeIs slot_list_setitem (wpAny_call_entry slot_list_setitem l1.typeIs entry_list_setitem ?_ (args_list_setitem _ _ _)))))
  show wpAny _ _ (Builtin.List.listSubscript? (.ref sl) >>= _) _ _ s; refine wpAny_bind ?_
  unfold Builtin.List.listSubscript?; refine wpAny_bind (wpAny_specialOf ty slice_no_index ?_); simp only [Option.isNone_none, if_true]; refine wpAny_pure ?_
  show wpAny _ _ (typeOf (.ref sl) >>= _) _ _ s; refine wpAny_bind (wpAny_typeOf ty ?_)
  (first | rw [if_neg (by decide)] | refine PySem.W.KFB.if_not (by decide) ?_); rw [listSliceParts_eq]
  refine wpAny_bind (wpAny_bind (wpAny_field g1 g3 (x := .none) rfl (wpAny_bind (wpAny_listPart .none ?_)))); rw [if_neg (show ¬ ((rawPart none == rawInt 0) = true) from Bool.false_ne_true)]
  refine wpAny_bind (wpAny_field g1 g3 (x := vl) rfl (wpAny_bind (wpAny_listPart pl (wpAny_bind (wpAny_field g1 g3 (x := vu) rfl (wpAny_bind (wpAny_listPart pu (wpAny_pure ?_))))))))
  (first | simp only [apart, Bool.false_eq_true, if_false] | refine PySem.W.KFB.if_not apart ?_); refine wpAny_bind (m := Builtin.List.listAllItems (.ref from_) "must assign iterable to extended slice") ?_
  unfold Builtin.List.listAllItems; refine wpAny_bind (wpAny_typeOf l2.typeIs ?_)
  (first | refine PySem.W.KFB.if_so (by decide) ?_ | rw [if_pos (by decide)]); unfold Builtin.List.listItems
  refine wpAny_bind (wpAny_seqItems e2 rfl (wpAny_pure (wpAny_bind (wpAny_bind (wpAny_seqItems e1 rfl (wpAny_pure ?_))))))
  refine wpAny_bind (wpAny_of_eq ((sliceIndices_raw (some (a : Int)) (some (c : Int)) none old.size (by simp)).trans (congrArg (pure : Int × Int × Int → Sem (Int × Int × Int)) (bounds_clip ha))) ?_)
  show wpAny _ _ (if ((1 : Int) == 1) = true then _ else _) _ _ s; rw [if_pos (by decide)]; refine wpAny_bind (wpAny_rule ?_)
  (first | simp only [notLongL room, Bool.false_eq_true, if_false] | refine PySem.W.KFB.if_not (notLongL room) ?_); (first | refine wpAny_bind (wpAny_pure ?_) | skip)
  show wpAny _ _ (updateSeq at_ (fun xs => xs.extract 0 ((a : Int)).toNat ++ new ++ xs.extract (max (a : Int) ((min c old.size : Nat) : Int)).toNat xs.size) >>= _) _ _ s
  rw [top_, Int.toNat_natCast]; refine wpAny_bind (wpAny_updateSeq (hz := Nat.le_trans (Nat.le_add_right _ _) room) (_hz' := fits) e1 rfl (wpAny_bind (wpAny_letGo ?_)))
  (first | exact wpAny_bind (wpAny_pure (wpAny_pure ⟨.none, rfl, wpAny_pure fin⟩)) | exact wpAny_pure ⟨.none, rfl, wpAny_pure fin⟩)
end
section
variable {X : Cx} {W : Wd} {pos : Pos}
def gSlc (to tl th : TE) : TG := fun v σ H Q => to σ H fun x H1 => tl σ H1 fun y H2 => th σ H2 fun z H3 => ∃ (a b : Addr) (xs ys : List V) (i j : Nat), x = .ref a ∧ v = .ref b ∧ a ≠ b ∧ H3 a = some (.lst xs) ∧ H3 b = some (.lst ys) ∧ y = .int (i : Int) ∧ z = .int (j : Int) ∧
  i ≤ j ∧ i ≤ xs.length ∧ xs.length + ys.length ≤ sizeLine ∧ Q σ (upd H3 a (.lst (xs.take i ++ ys ++ xs.drop j)))
theorem pg_slc {o lo hi : Expr} {to tl th : TE} {p p2 : Pos} (ho : PE X o to) (hl : PE X lo tl) (hh : PE X hi th) : PG X (.Subscript o (.Slice (some lo) (some hi) none p2) p) (gSlc to tl th) := by
  refine ⟨fun pins s σ H v u Q I r want => ?_⟩
  have ha : assign (.Subscript o (.Slice (some lo) (some hi) none p2) p) X.env u = (do
      let ov ← holding [u] (eval o X.env)
      let iv ← holding [u, ov] (eval (.Slice (some lo) (some hi) none p2) X.env)
      standAt p
      holding [u, ov, iv] (setItem ov iv u)
      release [iv, u, ov] []) := rfl
  rw [ha]
  refine wpAny_bind (wpAny_holding (thn (ho.run pins s σ H _ I want) fun ov s1 ⟨x, H1, I1, r1, q1⟩ => wpAny_bind (wpAny_holding (wpAny_Slice ?_))))
  rw [evalPart_some, evalPart_some, evalPart_none]
  refine thn (hl.run pins s1 σ H1 _ I1 q1) fun vl s2 ⟨y, H2, I2, r2, q2⟩ => ?_
  refine thn (hh.run pins s2 σ H2 _ I2 q2) fun vh s3 ⟨z, H3, I3, r3, a, b, xs, ys, i, j, e1, e2, hne, h1, h2, e3, e4, hij, hi, hz, q3⟩ => wpAny_pure ?_
  subst e1 e2 e3 e4
  cases r1
  cases r
  obtain ⟨t1, rfl⟩ := r2
  obtain ⟨t2, rfl⟩ := r3
  have I4 : Inv X pins σ H3 { s3 with heap := s3.heap.push { cls := .type "slice", data := .fields #[.int (i : Int) t1, .int (j : Int) t2, .none] } } := I3.kept (t' := s3.toks) fun b ob q => Heap.get?_push_of_some _ q
  obtain ⟨z1, its, n, rr, hl, e⟩ := I4.lstM h1
  obtain ⟨z2, its2, n2, rr2, hl2, e2⟩ := I4.lstM h2
  have hl' := rr.length
  have hl2' := rr2.length
  refine wpAny_bind (wpAny_standAt (wpAny_bind (wpAny_holding ?_))); refine setItem_clip (a := i) (c := j) e e2 hne (Heap.IsSliceOf.new ..) (.int _ _) (.int _ _) hij (by rw [List.size_toArray]; omega) (by rw [List.size_toArray, List.size_toArray]; omega) ?_
  refine wpAny_release ⟨σ, _, I4.lset (ys := xs.take i ++ ys ++ xs.drop j) (its' := its.take i ++ its2 ++ its.drop j) (t' := s3.toks) h1 e ?_ (Vals.append (Vals.append (rr.take _) rr2) (rr.drop _)) ?_, q3⟩
  · show its.toArray.extract 0 i ++ its2.toArray ++ its.toArray.extract (min j its.toArray.size) its.toArray.size = _
    rw [splice_eq its its2 i (min j its.toArray.size), List.size_toArray]
    congr 2
    by_cases hj : j ≤ its.length
    · rw [Nat.min_eq_left hj]
    · rw [Nat.min_eq_right (by omega), List.drop_length, List.drop_eq_nil_of_le (by omega)]
  · rw [List.length_append, List.length_append, List.length_take, List.length_drop]; omega
theorem t_slst {o lo hi e : Expr} {mo me ml mh : M} {p p2 : Pos} (he : PE X e (LE W me)) (ho : PE X o (LE W mo)) (hl : PE X lo (LE W ml)) (hh : PE X hi (LE W mh)) :
    PS X (.Assign [.Subscript o (.Slice (some lo) (some hi) none p2) p] e pos) (LSt W fun K ρ st => me ρ st fun d st1 => mo ρ st1 fun x st2 => ml ρ st2 fun y st3 => mh ρ st3 fun z st4 => ∃ a xs ys l h, x = .loc a ∧ st4 a = some (.lst xs) ∧ d = .lst ys ∧
      y = .int (Nat.cast l) ∧ z = .int (Nat.cast h) ∧ l ≤ h ∧ l ≤ xs.length ∧ xs.length + ys.length < sizeLine ∧ K.nx ρ (st4.set a (.lst (xs.take l ++ ys ++ xs.drop h)))) := by
  refine (ps_asg he (pg_slc ho hl hh) (by cases e <;> rfl) (by cases e <;> rfl)).mono fun D σ H ⟨B, ρ, st, K, r, h, q1, _⟩ => ?_
  refine ⟨B, ρ, st, _, r, h, fun d1 st1 v1 H1 h1 r1 o1 g1 => ⟨B, ρ, st1, _, r.step g1 o1, h1, fun d2 st2 v2 H2 h2 r2 o2 g2 => ⟨B, ρ, st2, _, r.step (g1.trans g2) o2, h2, fun d3 st3 v3 H3 h3 r3 o3 g3 => ⟨B, ρ, st3, _, r.step (g1.trans (g2.trans g3)) o3, h3, fun d4 st4 v4 H4 h4 r4 o4 g4 => ?_⟩⟩⟩⟩
  obtain ⟨a, xs, ys, l, hh, e1, e2, e3, e4, e5, k1, k2, k3, h5⟩ := h4
  subst e1 e3 e4 e5
  cases r2; cases r3; cases r4
  have r1' := r1.grow (g2.trans (g3.trans g4))
  cases r1' with
  | lst z f ll =>
    obtain ⟨us, w2, l2⟩ := o4.ob _ _ e2
    obtain ⟨o5, g5⟩ := setL o4 e2 (((l2.take l).app ll).app (l2.drop hh))
    have gg := g1.trans (g2.trans (g3.trans (g4.trans g5)))
    refine ⟨a, _, us, _, l, hh, rfl, rfl, fun e => ?_, w2, f, rfl, rfl, k1, by rw [l2.length]; exact k2, by rw [l2.length, ll.length]; omega, q1 _ _ _ _ h5 (r.step gg o5) gg⟩
    subst e
    rw [z.1] at e2; cases e2
end
end G
/-! The checker is right: statements. -/
namespace G
open PySem PySem.Spec PyProof.Rows L2 C8
/-! ### stores of pairs -/
theorem plAll (κ : Kx) : ∀ (es : Es) {sc : Scope} (l : List Expr), chEs κ sc es l = true → ∀ e ∈ l, plB e = true
  | .nil, sc, l, h => by
    unfold chEs at h; split at h <;> try cases h
    intro e he; cases he
  | .cons e es, sc, l, h => by
    unfold chEs at h; split at h <;> try cases h
    rename_i x xs
    simp only [Bool.and_eq_true] at h
    intro e he
    rcases List.mem_cons.mp he with rfl | he
    · exact h.1.1
    · exact plAll κ es xs h.2 e he
theorem bk_fn {env : PySem.Env} {sc : Scope} (e : env.scope = sc) (h : sc.kind = .function) : (env.blockKind != .function) = false := by
  unfold Env.blockKind
  rw [e, h]
  rfl
theorem here_of {sc : Scope} {x : Str} (h : hereB sc x = true) : sc.names.lookup x = some .local := by
  unfold hereB at h
  split at h
  · assumption
  · cases h
theorem sw2 {env : PySem.Env} {sc : Scope} {x y : Str} {px py pt p2 : Pos} {k k2 : Nat} {vs : List Expr} (es : env.scope = sc) (hk : sc.kind = .function) (hx : sc.names.lookup x = some .local) (hy : sc.names.lookup y = some .local) (hxy : x ≠ y) (hl : (py.line == px.line) = true)
    (hv : vs.length = 2) (hs : ∀ e ∈ vs, plB e = true) (hf : vs.all (foldedForSure 8) = false) (hc : vs.all (constantsAlone 8) = false) :
    swappedStores [.Tuple [.Name x px, .Name y py] k pt] (.Tuple vs k2 p2) env = pure (some [x, y]) := by
  have kx : env.kindOf x = some .local := by unfold Env.kindOf; rw [es]; exact hx
  have ky : env.kindOf y = some .local := by unfold Env.kindOf; rw [es]; exact hy
  have hb := bk_fn es hk
  have hl' : py.line = px.line := eq_of_beq hl
  unfold swappedStores
  simp only [List.length_cons, List.length_nil, hv, hb, hf, hc, List.head?_cons, Option.map_some, Option.getD_some, List.filterMap_cons, List.filterMap_nil, kx, ky]
  simp [Expr.pos, hl', hxy, Ne.symm hxy, List.eraseDups_cons, List.eraseDups_nil]
  intro e he hh
  have := hs e he
  cases e <;> first | (cases this; done) | (cases hh; done)
theorem sw3 {env : PySem.Env} {sc : Scope} {x y z : Str} {px py pz pt p2 : Pos} {k k2 : Nat} {vs : List Expr} (es : env.scope = sc) (hk : sc.kind = .function) (hx : sc.names.lookup x = some .local) (hy : sc.names.lookup y = some .local) (hz : sc.names.lookup z = some .local) (hxy : x ≠ y) (hxz : x ≠ z) (hyz : y ≠ z) (hl : (py.line == px.line) = true) (hl2 : (pz.line == px.line) = true)
    (hv : vs.length = 3) (hs : ∀ e ∈ vs, plB e = true) (hf : vs.all (foldedForSure 8) = false) (hc : vs.all (constantsAlone 8) = false) :
    swappedStores [.Tuple [.Name x px, .Name y py, .Name z pz] k pt] (.Tuple vs k2 p2) env = pure (some [x, y, z]) := by
  have kx : env.kindOf x = some .local := by unfold Env.kindOf; rw [es]; exact hx
  have ky : env.kindOf y = some .local := by unfold Env.kindOf; rw [es]; exact hy
  have kz : env.kindOf z = some .local := by unfold Env.kindOf; rw [es]; exact hz
  have hb := bk_fn es hk
  have hl' : py.line = px.line := eq_of_beq hl
  have hl2' : pz.line = px.line := eq_of_beq hl2
  unfold swappedStores
  simp only [List.length_cons, List.length_nil, hv, hb, hf, hc, List.head?_cons, Option.map_some, Option.getD_some, List.filterMap_cons, List.filterMap_nil, kx, ky, kz]
  simp [Expr.pos, hl', hl2', hxy, Ne.symm hxy, hxz, Ne.symm hxz, hyz, Ne.symm hyz, List.eraseDups_cons, List.eraseDups_nil]
  intro e he hh
  have := hs e he
  cases e <;> first | (cases this; done) | (cases hh; done)
theorem ord_of {env : PySem.Env} {sc : Scope} {ts : List Expr} {k : Nat} {pt : Pos} {v : Expr} (es : env.scope = sc) (h : ordB sc ts v = true) : swappedStores [.Tuple ts k pt] v env = pure none := by
  cases v <;> try rfl
  rename_i vs k2 p2
  unfold ordB at h
  simp only [Bool.or_eq_true] at h
  unfold swappedStores
  simp only
  split
  · rfl
  split
  · rfl
  split
  · rfl
  rename_i h1 h2 h3
  rcases h with (h | h) | h
  · exact (h1 (by rw [h]; rfl)).elim
  · rw [if_pos h]
  · exfalso
    apply h3
    rw [Bool.or_eq_true]
    left
    rw [bne_iff_ne]
    intro e
    rw [List.filterMap_length_eq_length] at e
    rw [Bool.not_eq_true'] at h
    rw [List.all_eq_false] at h
    obtain ⟨t, ht, hn⟩ := h
    apply hn
    have := e t ht
    cases t <;> try (cases this; done)
    rename_i y py
    unfold tyB
    have hkk : env.kindOf y = sc.names.lookup y := by unfold Env.kindOf; rw [es]
    dsimp only at this
    split at this
    · rename_i hh
      rw [Bool.and_eq_true] at hh ⊢
      refine ⟨?_, hh.2⟩
      rw [hkk] at hh
      rw [eq_of_beq hh.1]
    · cases this
end G
/-! The checker is right: statements. -/
namespace G
open PySem PySem.Spec PyProof.Rows L2 C8
section
variable {Γ : Ctx} {W : Wd} {κ : Kx} {sc : Scope} {X : Cx}
theorem Oks.loc (ok : Oks Γ W κ sc X) {x : Str} (h : locB sc x = true) : Loc X.env.scope x := by rw [ok.hsc]; exact loc_of h
theorem Oks.here (ok : Oks Γ W κ sc X) {x : Str} (h : hereB sc x = true) : X.env.scope.names.lookup x = some .local := by rw [ok.hsc]; exact here_of h
mutual
theorem soPt (ok : Oks Γ W κ sc X) : ∀ (p : Pt) (e : Expr), chPt κ sc p e = true → PG X e (LG W p)
  | .var i, e, h => by
    cases e <;> simp only [chPt, Bool.false_eq_true] at h
    rename_i x p
    rw [Bool.and_eq_true] at h
    exact g_var ok.ndX (ok.ix h.1) (ok.loc h.2) (.inl (ok.fnT x))
  | .tup ps, e, h => by
    cases e <;> simp only [chPt, Bool.false_eq_true] at h
    obtain ⟨g, hl, hn⟩ := soPts ok ps _ h
    exact g_tup ok.fx.K ok.fx.calm g (fun ds ρ P q => (asgs_len ps ds ρ P q).trans hl.symm) hn.1 hn.2
theorem soPts (ok : Oks Γ W κ sc X) : ∀ (p : Pts) (es : List Expr), chPts κ sc p es = true →
    PGs X es (LGs W p) ∧ es.length = p.len ∧ (assignEach es X.env).length = es.length ∧ (assignEach es X.env).findIdx? (·.1) = none
  | .nil, es, h => by
    cases es with
    | nil => exact ⟨g_nil, rfl, rfl, rfl⟩
    | cons _ _ => simp [chPts] at h
  | .cons p ps, es, h => by
    cases es with
    | nil => simp [chPts] at h
    | cons e es =>
      simp only [chPts, Bool.and_eq_true] at h
      obtain ⟨⟨h1, h2⟩, h3⟩ := h
      have g1 := soPt ok p e h2
      obtain ⟨g2, l2, n2, f2⟩ := soPts ok ps es h3
      have ea : assignEach (e :: es) X.env = (false, assign e X.env) :: assignEach es X.env := by
        cases e <;> first | rfl | cases h1
      refine ⟨g_cons g1 g2 (by rw [ea]; rfl), by simp [Pts.len, l2], by rw [ea]; simp [n2], ?_⟩
      rw [ea, List.findIdx?_cons]
      simp [f2]
end
theorem sw_no (ok : Oks Γ W κ sc X) {x : Str} {px : Pos} {e : Expr} {n : Nat} (hd : okC e = true) (h : swapB sc x px e = false) : swapsWith e (some (.Name x px)) n X.env = pure false := by
  cases e <;> first | rfl | (cases hd; done) | skip
  · rename_i a b s p
    have hb : (X.env.blockKind == .function) = true := by
      have := bk_fn (env := X.env) ok.hsc ok.kind
      rw [bne, Bool.not_eq_false'] at this
      exact this
    unfold swapB at h
    have hk : (X.env.kindOf x == some .local) = (match sc.names.lookup x with | some .local => true | _ => false) := by
      unfold Env.kindOf
      rw [ok.hsc]
      cases sc.names.lookup x with
      | none => rfl
      | some k => cases k <;> rfl
    show (pure (X.env.blockKind == .function && X.env.kindOf x == some .local && px.line == p.line && !(s.names.any fun (n, k) => n == x && (k == .local || k == .cell))) : Sem Bool) = pure false
    rw [hb, hk, Bool.true_and]
    exact congrArg _ h
theorem sw_yes (ok : Oks Γ W κ sc X) {x : Str} {px : Pos} {a : Expr} {b : List Comprehension} {s : Scope} {p : Pos} {n : Nat} (h : swapB sc x px (.ListComp a b s p) = true) : swapsWith (.ListComp a b s p) (some (.Name x px)) n X.env = pure true ∧ hereB sc x = true := by
  have hb : (X.env.blockKind == .function) = true := by
    have := bk_fn (env := X.env) ok.hsc ok.kind
    rw [bne, Bool.not_eq_false'] at this
    exact this
  unfold swapB at h
  have hk : (X.env.kindOf x == some .local) = (match sc.names.lookup x with | some .local => true | _ => false) := by
    unfold Env.kindOf
    rw [ok.hsc]
    cases sc.names.lookup x with
    | none => rfl
    | some k => cases k <;> rfl
  refine ⟨?_, ?_⟩
  · show (pure (X.env.blockKind == .function && X.env.kindOf x == some .local && px.line == p.line && !(s.names.any fun (n, k) => n == x && (k == .local || k == .cell))) : Sem Bool) = pure true
    rw [hb, hk, Bool.true_and]
    exact congrArg _ h
  · simp only [Bool.and_eq_true] at h
    exact h.1.1
/-- a checked producer that is a list comprehension -/
theorem cmp_set (ok : Oks Γ W κ sc X) {q : P} {e : Expr} {i : Nat} {x : Str} {px pos : Pos} (h : chP κ sc q e = true) (hc : cmpB q = true) (hi : nmB κ i x = true) (hs : swapB sc x px e = true) :
    PS X (.Assign [.Name x px] e pos) (fun D σ H => LP W (denP Γ X0 q) σ H fun v H1 => gName i v σ H1 D.nx) := by
  cases q <;> try cases hc
  · rename_i own p it elt
    unfold chP at h; split at h <;> try cases h
    rename_i el tg iter scope cpos
    simp only [Bool.and_eq_true, decide_eq_true_eq] at h
    obtain ⟨⟨⟨⟨⟨h1, h2⟩, h3⟩, h4⟩, h5⟩, h6⟩ := h
    obtain ⟨s1, s2⟩ := sw_yes ok (n := pos.line) hs
    refine PS.mono (ps_setLc ok.fx.calm ok.ndX (ok.ix hi) (ok.here s2) s1 (soI it ok.toOkk tg iter h5) (own := ownN κ.N own) (by rw [ok.hN, ok.hsc]; exact blkOk_by h1) (g := LG W p) (fun s H C cl fp => soPtB ok.toOkk s H scope C cl fp p tg h2)
      (tt := LT W _) (te := LE W _) (fun s H C cl fp => ts_nil) (fun s H C cl fp => soE elt (ok.toOkk.blk s H scope C cl fp) el h6) (fold_no h4)) fun D σ H hq => ?_
    refine comp_lift (own := (ownN κ.N own).map (·.2)) (by rw [ownN_snd]; exact h3) σ H _ ?_
    have e : denP Γ X0 (.comp own p it elt) = fun ρ st Q => denI Γ X0 it ρ st fun ds st1 => turns (turn p ((ownN κ.N own).map (·.2)) (fun _ st Q => Q (.bl true) st) (den Γ X0 elt) ρ) ds st1 [] fun xs st2 => Q (.lst xs) st2 := by
      funext ρ st Q
      rw [denP, ownN_snd]
      congr 1
      funext ds st1
      congr 1
      funext d st k
      unfold turn
      congr 1
      funext ρ1
      simp
    rw [← e]
    exact hq
  · rename_i own p it c elt
    unfold chP at h; split at h <;> try cases h
    rename_i el tg iter t scope cpos
    simp only [Bool.and_eq_true, decide_eq_true_eq] at h
    obtain ⟨⟨⟨⟨⟨⟨h1, h2⟩, h3⟩, h4⟩, h5⟩, h7⟩, h6⟩ := h
    obtain ⟨s1, s2⟩ := sw_yes ok (n := pos.line) hs
    refine PS.mono (ps_setLc ok.fx.calm ok.ndX (ok.ix hi) (ok.here s2) s1 (soI it ok.toOkk tg iter h5) (own := ownN κ.N own) (by rw [ok.hN, ok.hsc]; exact blkOk_by h1) (g := LG W p) (fun s H C cl fp => soPtB ok.toOkk s H scope C cl fp p tg h2)
      (tt := LT W _) (te := LE W _) (fun s H C cl fp => ts_one (soT c (ok.toOkk.blk s H scope C cl fp) t h7)) (fun s H C cl fp => soE elt (ok.toOkk.blk s H scope C cl fp) el h6) (fold_no h4)) fun D σ H hq => ?_
    refine comp_lift (own := (ownN κ.N own).map (·.2)) (by rw [ownN_snd]; exact h3) σ H _ ?_
    have e : denP Γ X0 (.compif own p it c elt) = fun ρ st Q => denI Γ X0 it ρ st fun ds st1 => turns (turn p ((ownN κ.N own).map (·.2)) (den Γ X0 c) (den Γ X0 elt) ρ) ds st1 [] fun xs st2 => Q (.lst xs) st2 := by
      funext ρ st Q
      rw [denP, ownN_snd]
      rfl
    rw [← e]
    exact hq
theorem t_par2 {x y : Str} {a b : Expr} {px py pt pos : Pos} {kt k2 : Nat} {pt2 : Pos} {i j : Nat} {ms : MA} (hc : X.calm = true) (hN : X.N.Nodup) (hi : X.N[i]? = some x) (hj : X.N[j]? = some y) (hij : i ≠ j)
    (hx : X.env.scope.names.lookup x = some .local) (hy : X.env.scope.names.lookup y = some .local) (ha : PA X [a, b] (LA W ms))
    (hw : swappedStores [.Tuple [.Name x px, .Name y py] kt pt] (.Tuple [a, b] k2 pt2) X.env = pure (some [x, y])) :
    PS X (.Assign [.Tuple [.Name x px, .Name y py] kt pt] (.Tuple [a, b] k2 pt2) pos) (LSt W fun K ρ st => ms ρ st fun ds st1 => ds.length = 2 ∧ K.nx (setAll [i, j] ds ρ) st1) := by
  refine (ps_par hc hN hi hj hij hx hy ha hw).mono fun D σ H ⟨B, ρ, st, K, r, h, q1, _⟩ => ?_
  refine ⟨B, ρ, st, _, r, h, fun ds st1 vs H1 ⟨hl, h1⟩ r1 o1 g1 => ?_⟩
  obtain ⟨d1, d2, rfl⟩ : ∃ d1 d2, ds = [d1, d2] := by
    rcases ds with _ | ⟨d1, _ | ⟨d2, _ | ⟨d3, r⟩⟩⟩ <;> simp at hl
    exact ⟨d1, d2, rfl⟩
  cases r1 with
  | cons a1 t1 =>
    cases t1 with
    | cons a2 t2 =>
      cases t2
      exact ⟨_, _, rfl, q1 _ _ _ _ h1 (((r.step g1 o1).set i a1).set j a2) g1⟩
theorem t_par3 {x y z : Str} {a b c : Expr} {px py pz pt pos : Pos} {kt k2 : Nat} {pt2 : Pos} {i j l : Nat} {ms : MA} (hc : X.calm = true) (hN : X.N.Nodup) (hi : X.N[i]? = some x) (hj : X.N[j]? = some y) (hl : X.N[l]? = some z) (hij : i ≠ j) (hil : i ≠ l) (hjl : j ≠ l)
    (hx : X.env.scope.names.lookup x = some .local) (hy : X.env.scope.names.lookup y = some .local) (hz : X.env.scope.names.lookup z = some .local) (ha : PA X [a, b, c] (LA W ms))
    (hw : swappedStores [.Tuple [.Name x px, .Name y py, .Name z pz] kt pt] (.Tuple [a, b, c] k2 pt2) X.env = pure (some [x, y, z])) :
    PS X (.Assign [.Tuple [.Name x px, .Name y py, .Name z pz] kt pt] (.Tuple [a, b, c] k2 pt2) pos) (LSt W fun K ρ st => ms ρ st fun ds st1 => ds.length = 3 ∧ K.nx (setAll [i, j, l] ds ρ) st1) := by
  refine (ps_par3 hc hN hi hj hl hij hil hjl hx hy hz ha hw).mono fun D σ H ⟨B, ρ, st, K, r, h, q1, _⟩ => ?_
  refine ⟨B, ρ, st, _, r, h, fun ds st1 vs H1 ⟨hl, h1⟩ r1 o1 g1 => ?_⟩
  obtain ⟨d1, d2, d3, rfl⟩ : ∃ d1 d2 d3, ds = [d1, d2, d3] := by
    rcases ds with _ | ⟨d1, _ | ⟨d2, _ | ⟨d3, _ | ⟨d4, r⟩⟩⟩⟩ <;> simp at hl
    exact ⟨d1, d2, d3, rfl⟩
  cases r1 with
  | cons a1 t1 =>
    cases t1 with
    | cons a2 t2 =>
      cases t2 with
      | cons a3 t3 =>
        cases t3
        exact ⟨_, _, _, rfl, q1 _ _ _ _ h1 ((((r.step g1 o1).set i a1).set j a2).set l a3) g1⟩
theorem doc_ok {s : Stmt} (h : docB s = true) : PS X s (LSt W fun K ρ st => K.nx ρ st) := by
  unfold docB at h
  split at h <;> try cases h
  · exact ps_doc.mono nx_lift
  · exact ps_pass.mono nx_lift
mutual
theorem soS (ok : Oks Γ W κ sc X) : ∀ (ir : S) (s : Stmt), chS κ sc ir s = true → PS X s (LSt W (denS Γ X0 ir))
  | .exp a, s, h => by
    unfold chS at h; split at h <;> try cases h
    rename_i e pos
    simp only [Bool.and_eq_true, Bool.not_eq_true'] at h
    exact PS.to (t_exp (soE a ok.toOkk _ h.2) (by cases e <;> first | rfl | cases h.1)) (by funext K ρ st; rw [denS])
  | .asg p a, s, h => by
    unfold chS at h; split at h <;> try cases h
    · rename_i x px e pos
      rw [Bool.and_eq_true] at h
      obtain ⟨h1, h2⟩ := h
      split at h1 <;> try cases h1
      rename_i i
      rw [Bool.and_eq_true] at h1
      split at h2
      · rename_i hsw
        split at h2 <;> try cases h2
        · rename_i q
          rw [Bool.and_eq_true] at h2
          refine PS.mono (cmp_set ok h2.1 h2.2 h1.1 hsw) fun D σ H hq => ?_
          refine fr_lift σ H _ ?_
          have hq := t_set D σ H (show LSt W (fun K ρ st => den Γ X0 (.fr q) ρ st fun d st1 => K.nx (ρ.set i (some d)) st1) D σ H from by
            have e : denS Γ X0 (.asg (.var i) (.fr q)) = (fun K ρ st => den Γ X0 (.fr q) ρ st fun d st1 => K.nx (ρ.set i (some d)) st1) := by funext K ρ st; rw [denS]; rfl
            rw [← e]; exact hq)
          have e : den Γ X0 (.fr q) = (fun ρ st Q => denP Γ X0 q ρ st fun o st1 => match o with
              | .lst ds => Q (.lst ds) st1
              | .dct kvs => Q (.dct kvs) st1
              | _ => False) := by funext ρ st Q; rw [den] <;> (refine congrArg _ ?_; funext o st1; cases o <;> rfl)
          rw [e] at hq
          exact hq
        · rename_i q
          rw [Bool.and_eq_true] at h2
          refine PS.mono (cmp_set ok h2.1 h2.2 h1.1 hsw) fun D σ H hq => ?_
          refine bx_lift σ H _ ?_
          have hq := t_set D σ H (show LSt W (fun K ρ st => den Γ X0 (.bx q) ρ st fun d st1 => K.nx (ρ.set i (some d)) st1) D σ H from by
            have e : denS Γ X0 (.asg (.var i) (.bx q)) = (fun K ρ st => den Γ X0 (.bx q) ρ st fun d st1 => K.nx (ρ.set i (some d)) st1) := by funext K ρ st; rw [denS]; rfl
            rw [← e]; exact hq)
          have e : den Γ X0 (.bx q) = (fun ρ st Q => denP Γ X0 q ρ st fun o st1 => ∀ a, st1 a = none → Q (.loc a) (st1.set a o)) := by funext ρ st Q; rw [den]
          rw [e] at hq
          exact hq
      · rename_i hsw
        rw [Bool.and_eq_true] at h2
        have hsw : swapB sc x px e = false := by cases q : swapB sc x px e <;> simp_all
        exact PS.to ((ps_set ok.ndX (ok.ix h1.1) (ok.loc h1.2) (soE a ok.toOkk _ h2.2) (sw_no ok h2.1 hsw) (.inl (ok.fnT x))).mono t_set) (by funext K ρ st; rw [denS]; rfl)
    · rename_i ts k tp e pos
      simp only [Bool.and_eq_true] at h
      exact PS.to ((ps_asg (soE a ok.toOkk _ h.2) (soPt ok p _ h.1.1) (by cases e <;> rfl) (ord_of ok.hsc h.1.2)).mono t_asg) (by funext K ρ st; rw [denS])
  | .par is as, s, h => by
    unfold chS at h; split at h <;> try cases h
    · rename_i x px y py k1 p1 vs k2 p2 pos
      simp only [Bool.and_eq_true, decide_eq_true_eq, Bool.not_eq_true'] at h
      obtain ⟨⟨⟨⟨⟨⟨⟨⟨h1, h2⟩, h3⟩, h4⟩, h5⟩, h6⟩, h7⟩, h8⟩, h9⟩ := h
      split at h1 <;> try cases h1
      rename_i i j
      simp only [Bool.and_eq_true, decide_eq_true_eq] at h1
      obtain ⟨⟨a1, a2⟩, a3⟩ := h1
      have hw := sw2 (k := k1) (pt := p1) (k2 := k2) (p2 := p2) ok.hsc ok.kind (here_of h2) (here_of h3) h4 h5 h6 (plAll κ as vs h9) h7 h8
      obtain ⟨v1, v2, rfl⟩ : ∃ d1 d2, vs = [d1, d2] := by
        rcases vs with _ | ⟨d1, _ | ⟨d2, _ | ⟨d3, r⟩⟩⟩ <;> simp at h6
        exact ⟨d1, d2, rfl⟩
      exact PS.to (t_par2 ok.fx.calm ok.ndX (ok.ix a1) (ok.ix a2) a3 (ok.here h2) (ok.here h3) (soEs as ok.toOkk _ h9) hw) (by funext K ρ st; rw [denS]; rfl)
    · rename_i x px y py z pz k1 p1 vs k2 p2 pos
      simp only [Bool.and_eq_true, decide_eq_true_eq, Bool.not_eq_true'] at h
      obtain ⟨⟨⟨⟨⟨⟨⟨⟨⟨⟨⟨⟨h1, h2⟩, h3⟩, h3'⟩, h4⟩, h4'⟩, h4''⟩, h5⟩, h5'⟩, h6⟩, h7⟩, h8⟩, h9⟩ := h
      split at h1 <;> try cases h1
      rename_i i j l
      simp only [Bool.and_eq_true, decide_eq_true_eq] at h1
      obtain ⟨⟨⟨⟨⟨a1, a2⟩, a3⟩, a4⟩, a5⟩, a6⟩ := h1
      have hw := sw3 (k := k1) (pt := p1) (k2 := k2) (p2 := p2) ok.hsc ok.kind (here_of h2) (here_of h3) (here_of h3') h4 h4' h4'' h5 h5' h6 (plAll κ as vs h9) h7 h8
      obtain ⟨v1, v2, v3, rfl⟩ : ∃ d1 d2 d3, vs = [d1, d2, d3] := by
        rcases vs with _ | ⟨d1, _ | ⟨d2, _ | ⟨d3, _ | ⟨d4, r⟩⟩⟩⟩ <;> simp at h6
        exact ⟨d1, d2, d3, rfl⟩
      exact PS.to (t_par3 ok.fx.calm ok.ndX (ok.ix a1) (ok.ix a2) (ok.ix a3) a4 a5 a6 (ok.here h2) (ok.here h3) (ok.here h3') (soEs as ok.toOkk _ h9) hw) (by funext K ρ st; rw [denS]; rfl)
  | .sto o i a, s, h => by
    unfold chS at h; split at h <;> try cases h
    simp only [Bool.and_eq_true] at h
    exact PS.to (t_sto ok.fx.K ok.fx.w ok.hu (soE a ok.toOkk _ h.1.1.2) (soE o ok.toOkk _ h.1.2) (soE i ok.toOkk _ h.2) h.1.1.1) (by funext K ρ st; rw [denS])
  | .slst o lo hi a, s, h => by
    unfold chS at h; split at h <;> try cases h
    simp only [Bool.and_eq_true] at h
    exact PS.to (t_slst (soE a ok.toOkk _ h.1.1.1) (soE o ok.toOkk _ h.1.1.2) (soE lo ok.toOkk _ h.1.2) (soE hi ok.toOkk _ h.2)) (by funext K ρ st; rw [denS])
  | .fld o f a, s, h => by
    unfold chS at h; split at h <;> try cases h
    simp only [Bool.and_eq_true, decide_eq_true_eq] at h
    obtain ⟨⟨rfl, h2⟩, h3⟩ := h
    exact PS.to (t_fld (cf := Γ.cf) (fun c C a b => ok.fx.cf c f C a b) (soE a ok.toOkk _ h2) (soE o ok.toOkk _ h3)) (by funext K ρ st; rw [denS])
  | .aug i op a, s, h => by
    unfold chS at h; split at h <;> try cases h
    rename_i x p op' e pos
    simp only [Bool.and_eq_true, decide_eq_true_eq] at h
    obtain ⟨⟨⟨⟨rfl, h2⟩, h3⟩, h4⟩, h5⟩ := h
    refine PS.to (t_aug ok.ndX (ok.ix h3) (ok.loc h4) (ok.fnT x) (soE a ok.toOkk _ h5) (by cases op <;> simp at h2 ⊢)) ?_
    funext K ρ st
    rw [denS] <;> (rcases ρ[i]? with _ | _ | _ <;> rfl)
  | .augs _ _ _ _, s, h => by unfold chS at h; cases h
  | .ret a, s, h => by
    unfold chS at h; split at h <;> try cases h
    exact PS.to (t_ret (soE a ok.toOkk _ h)) (by funext K ρ st; rw [denS])
  | .retN, s, h => by
    unfold chS at h; split at h <;> try cases h
    exact PS.to t_retN (by funext K ρ st; rw [denS])
  | .ife c a b, s, h => by
    unfold chS at h; split at h <;> try cases h
    simp only [Bool.and_eq_true] at h
    exact PS.to (t_if (soT c ok.toOkk _ h.1.1) (soSs ok a _ h.1.2) (soSs ok b _ h.2)) (by funext K ρ st; rw [denS])
  | .for p it b, s, h => by
    unfold chS at h; split at h <;> try cases h
    simp only [Bool.and_eq_true] at h
    exact PS.to (t_for ok.pas ok.fx.calm (soI it ok.toOkk _ _ h.1.1.2) (soPt ok p _ h.1.1.1) (mb := fun ρ st K => denSs Γ X0 b K ρ st) (soSs ok b _ h.2) (fold_no h.1.2)) (by funext K ρ st; rw [denS])
  | .whl c b, s, h => by
    unfold chS at h; split at h <;> try cases h
    simp only [Bool.and_eq_true] at h
    exact PS.to (t_while ok.pas (soT c ok.toOkk _ h.1) (mb := fun ρ st K => denSs Γ X0 b K ρ st) (soSs ok b _ h.2)) (by funext K ρ st; rw [denS])
  | .brk, s, h => by
    unfold chS at h; split at h <;> try cases h
    exact PS.to t_brk (by funext K ρ st; rw [denS])
  | .cnt, s, h => by
    unfold chS at h; split at h <;> try cases h
    exact PS.to t_cnt (by funext K ρ st; rw [denS])
  | .pass, s, h => by
    unfold chS at h
    exact PS.to (doc_ok h) (by funext K ρ st; rw [denS])
  | .never, s, h => PS.to t_never (by funext K ρ st; rw [denS])
  | .gfz _, s, h => by unfold chS at h; cases h
theorem soSs (ok : Oks Γ W κ sc X) : ∀ (ir : Ss) (s : List Stmt), chSs κ sc ir s = true → PSs X s (LSt W (denSs Γ X0 ir))
  | .nil, l, h => by
    unfold chSs at h; split at h <;> try cases h
    exact PSs.to t_nil (by funext K ρ st; rw [denSs])
  | .cons s ss, l, h => by
    unfold chSs at h
    split at h
    · rename_i i
      refine PSs.to (t_gfz (i := i) (soSs ok ss l h)) ?_
      funext K ρ st
      rw [denSs, denS] <;> (rcases ρ[i]? with _ | _ | _ <;> rfl)
    · split at h <;> try cases h
      rw [Bool.and_eq_true] at h
      exact PSs.to (t_cons (soS ok s _ h.1) (soSs ok ss _ h.2)) (by funext K ρ st; rw [denSs])
end
end
end G
/-! A def by its small text. -/
namespace G
open PySem PySem.Spec PyProof.Rows L2
open C8 (Cal Met Mak)
def startE (n : Nat) (ds : List D) : Env := ds.map some ++ List.replicate (n - ds.length) none
theorem start_rep {W : Wd} {B : Addr → Prop} {st : Store} {H : Hp} {N : List Str} {vs : List V} {ds : List D} (o : RH W B st H) (l : RepL W B st H vs ds) : R W B (startE N.length ds) st (L2.start N vs) H := by
  refine ⟨?_, fun i d e => ?_, o⟩
  · unfold startE L2.start
    rw [List.length_append, List.length_append, List.length_map, List.length_map, List.length_replicate, List.length_replicate, l.length]
  · unfold startE at e
    unfold L2.start
    by_cases hi : i < ds.length
    · rw [List.getElem?_append_left (by simpa using hi)] at e
      simp only [List.getElem?_map, Option.map_eq_some_iff] at e
      obtain ⟨d', h1, h2⟩ := e
      cases h2
      obtain ⟨v, h3, h4⟩ := l.get i d h1
      refine ⟨v, ?_, h4⟩
      rw [List.getElem?_append_left (by rw [List.length_map, l.length]; exact hi), List.getElem?_map, h3]
      rfl
    · rw [List.getElem?_append_right (by simpa using Nat.le_of_not_lt hi)] at e
      have := List.mem_of_getElem? e
      have := List.eq_of_mem_replicate this
      cases this
/-- what is known of the program behind its top -/
structure Gx (Γ : Ctx) (W : Wd) (P : Program) (mg : Str → Option Value) (base : Heap) (k : Nat) : Prop where
  bn : ∀ x ∈ bnames, mg x = none
  gl : ∀ x d, Γ.gl x = some d → ∃ v u, mg x = some u ∧ RelV v u ∧ ∀ B st H, Rep W B st H v d
  fn : ∀ f sp, Γ.fn f = some sp → ∃ j, j ≤ k ∧ Cal P W.w W.K mg base j f (LS W sp) []
  cf : ∀ c f C, Γ.cf c f = true → W.cls c = some C → Cls W.K C ∧ NoAttr W.K C f
  me : ∀ c m sp, Γ.me c m = some sp → m ≠ "__init__" → ∃ C j, j ≤ k ∧ W.cls c = some C ∧ Met P W.w W.K mg base j C m (LS W sp) []
  nw : ∀ c sp, Γ.me c "__init__" = some sp → ∃ C j, j + 1 ≤ k ∧ W.cls c = some C ∧ Mak P W.w W.K mg base j c C (LS W sp) []
theorem Gx.fx {Γ : Ctx} {W : Wd} {P : Program} {mg : Str → Option Value} {base : Heap} {k : Nat} (G : Gx Γ W P mg base k) {N : List Str} {qual : Str} {scope : Scope} {f : Addr} {cd : Value} {A : Around} {outer : List PySem.Env} {s : Shared} {H : Hp} {E : XK}
    (hr : Room k (A.deeper (envOfC qual scope s.heap.objs.size f cd))) : Fx Γ W (cxOf L2.CX0 P W.w W.K mg base N qual scope f cd A outer s H E).nox where
  K := rfl
  w := rfl
  calm := rfl
  room := by have := hr.un; show (A.deeper (envOfC qual scope s.heap.objs.size f cd)).units + 100 < cLine; omega
  bn := G.bn
  gl := G.gl
  fn := fun f sp e => let ⟨j, h1, h2⟩ := G.fn f sp e; ⟨j, h2, hr.mono h1⟩
  cf := G.cf
  me := fun c m sp e h => let ⟨C, j, h1, h2, h3⟩ := G.me c m sp e h; ⟨C, j, h2, h3, hr.mono h1⟩
  nw := fun c sp e => let ⟨C, j, h1, h2, h3⟩ := G.nw c sp e; ⟨C, j, h2, h3, hr.mono h1⟩
/-- a spec by a body -/
def Does (Γ : Ctx) (n m : Nat) (body : Ss) (sp : Spec) : Prop := ∀ ds st P, sp ds st P X0 → ds.length = m ∧ denSs Γ X0 body { nx := fun _ st => P .non st, rt := P } (startE n ds) st
theorem fn_ok {Γ : Ctx} {W : Wd} {P : Program} {mg : Str → Option Value} {base : Heap} {k : Nat} {x qual : Str} {s : Stmt} {f : Addr} {fd : FuncData} {κ : Kx} {ps : List Str} {body : Ss} {sp : Spec} (G : Gx Γ W P mg base k) (F : L2.Fun W.K x qual s f fd) (S : FnScope κ.N ps (defScope s))
    (hf : ∀ f ∈ κ.fns, ∃ sp, Γ.fn f = some sp) (hm : ∀ c m, (c, m) ∈ κ.mes → ∃ sp, Γ.me c m = some sp) (hch : chSs κ (defScope s) body (defBody s) = true) (law : Does Γ κ.N.length ps.length body sp) :
    FnOk P W.w W.K mg base L2.CX0 (k + 1) f fd ps (LS W sp) := by
  refine F.ok S (fun vs H Q E ⟨B, st, ds, P', o, l, h, q⟩ => ?_) (fun cdv A outer s' H vs Q E hr ⟨B, st, ds, P', o, l, h, q⟩ => ?_)
  · rw [l.length]; exact (law _ _ _ h).1
  · have ok : Oks Γ W κ (defScope s) (cxOf L2.CX0 P W.w W.K mg base κ.N qual (defScope s) f cdv A outer s' H E).nox :=
      { hN := rfl, hsc := rfl, nd := S.nd, fns := hf, mes := hm, fx := G.fx hr, kind := S.kind, pas := PassesOwn.never, fnT := fun _ => rfl }
    refine ⟨_, soSs ok body _ hch, B, _, st, _, start_rep o l, (law _ _ _ h).2, fun ρ' st' σ' H' z r g => q _ _ _ _ z .non r.ob g, fun d st' v H' z r o g => q _ _ _ _ z r o g, fun _ _ _ _ z => z.elim, fun _ _ _ _ z => z.elim⟩
theorem cal_ok {W : Wd} {P : Program} {mg : Str → Option Value} {base : Heap} {k : Nat} {x qual : Str} {s : Stmt} {f : Addr} {fd : FuncData} {ps : List Str} {sp : Spec} (F : L2.Fun W.K x qual s f fd) (b : Binds W.K fd ps []) (m : mg x = some (.ref f)) (h : FnOk P W.w W.K mg base L2.CX0 k f fd ps (LS W sp)) :
    Cal P W.w W.K mg base k x (LS W sp) [] := ⟨f, fd, ps, [], h, m, F.kp, b, .nil⟩
end G
/-! Readings: loops by invariants; specs. -/
namespace G
open PySem PySem.Spec PyProof.Rows L2
/-! ### comprehensions -/
theorem turns_inv {f : D → Store → (Option D → Store → Prop) → Prop} {Q : List D → Store → Prop} (J : Nat → List D → Store → Prop) : ∀ (ds : List D) (i : Nat) (st : Store) (acc : List D), acc.length ≤ i → i + ds.length ≤ sizeLine → J i acc st →
    (∀ j d st acc (k : Option D → Store → Prop), ds[j]? = some d → J (i + j) acc st → (∀ x st', J (i + j + 1) (acc ++ [x]) st' → k (some x) st') → (∀ st', J (i + j + 1) acc st' → k none st') → f d st k) →
    (∀ acc st, J (i + ds.length) acc st → Q acc st) → turns f ds st acc Q
  | [], i, st, acc, hl, hs, h, step, hd => hd acc st (by simpa using h)
  | d :: ds, i, st, acc, hl, hs, h, step, hd => by
    simp only [List.length_cons] at hs hd
    unfold turns
    have go : ∀ acc' st', acc'.length ≤ i + 1 → J (i + 1) acc' st' → turns f ds st' acc' Q := fun acc' st' hl' h' =>
      turns_inv J ds (i + 1) st' acc' hl' (by omega) h' (fun j e st acc k hj hJ h1 h2 => step (j + 1) e st acc k (by simpa using hj) (by rw [show i + (j + 1) = i + 1 + j by omega]; exact hJ)
        (fun x st' z => h1 x st' (by rw [show i + 1 + j + 1 = i + (j + 1) + 1 by omega]; exact z)) (fun st' z => h2 st' (by rw [show i + 1 + j + 1 = i + (j + 1) + 1 by omega]; exact z))) (fun acc st z => hd acc st (by rw [show i + (ds.length + 1) = i + 1 + ds.length by omega]; exact z))
    have hl2 : ∀ x, (acc ++ [x]).length ≤ i + 1 := fun x => by rw [List.length_append, List.length_singleton]; omega
    exact step 0 d st acc _ rfl h (fun x st' z => ⟨by omega, go _ _ (hl2 x) z⟩) (fun st' z => go _ _ (by omega) z)
/-- each turn gives g -/
theorem turns_map {f : D → Store → (Option D → Store → Prop) → Prop} {Q : List D → Store → Prop} {g : D → D} {st : Store} : ∀ (ds acc : List D), acc.length + ds.length ≤ sizeLine → (∀ d ∈ ds, ∀ k : Option D → Store → Prop, k (some (g d)) st → f d st k) → Q (acc ++ ds.map g) st → turns f ds st acc Q
  | [], acc, hl, h, q => by simpa [turns] using q
  | d :: ds, acc, hl, h, q => by
    simp only [List.length_cons] at hl
    unfold turns
    refine h d List.mem_cons_self _ ⟨by omega, turns_map ds (acc ++ [g d]) (by simp; omega) (fun e he => h e (List.mem_cons_of_mem _ he)) ?_⟩
    simpa using q
/-- .. where c -/
theorem turns_filter {f : D → Store → (Option D → Store → Prop) → Prop} {Q : List D → Store → Prop} {g : D → D} {c : D → Bool} {st : Store} : ∀ (ds acc : List D), acc.length + ds.length ≤ sizeLine →
    (∀ d ∈ ds, ∀ k : Option D → Store → Prop, (c d = true → k (some (g d)) st) → (c d = false → k none st) → f d st k) → Q (acc ++ (ds.filter c).map g) st → turns f ds st acc Q
  | [], acc, hl, h, q => by simpa [turns] using q
  | d :: ds, acc, hl, h, q => by
    simp only [List.length_cons] at hl
    unfold turns
    refine h d List.mem_cons_self _ (fun e => ⟨by omega, turns_filter ds (acc ++ [g d]) (by simp; omega) (fun e he => h e (List.mem_cons_of_mem _ he)) ?_⟩) (fun e => turns_filter ds acc (by omega) (fun e he => h e (List.mem_cons_of_mem _ he)) ?_)
    · simpa [List.filter_cons, e] using q
    · simpa [List.filter_cons, e] using q
/-! ### for, while -/
theorem forL_inv {p : Pt} {f : Env → Store → Kn → Prop} {K : Kn} (J : Nat → Env → Store → Prop) : ∀ (ds : List D) (i : Nat) (ρ : Env) (st : Store), J i ρ st →
    (∀ j d ρ st (N : Env → Store → Prop), ds[j]? = some d → J (i + j) ρ st → (∀ ρ' st', J (i + j + 1) ρ' st' → N ρ' st') → asg p d ρ fun ρ1 => f ρ1 st { nx := N, rt := K.rt, bk := K.nx, ct := N }) →
    (∀ ρ st, J (i + ds.length) ρ st → K.nx ρ st) → forL p f K ds ρ st
  | [], i, ρ, st, h, step, hd => hd ρ st (by simpa using h)
  | d :: ds, i, ρ, st, h, step, hd => by
    simp only [List.length_cons] at hd
    unfold forL
    refine step 0 d ρ st _ rfl h fun ρ' st' h' => forL_inv J ds (i + 1) ρ' st' h' (fun j e ρ st N hj hJ hN => step (j + 1) e ρ st N (by simpa using hj) (by rw [show i + (j + 1) = i + 1 + j by omega]; exact hJ)
      (fun ρ' st' z => hN ρ' st' (by rw [show i + 1 + j + 1 = i + (j + 1) + 1 by omega]; exact z))) (fun ρ st z => hd ρ st (by rw [show i + (ds.length + 1) = i + 1 + ds.length by omega]; exact z))
theorem whlN_inv {c : Env → Store → Post → Prop} {f : Env → Store → Kn → Prop} {K : Kn} (J : Nat → Env → Store → Prop)
    (step : ∀ m ρ st (N : Env → Store → Prop), J m ρ st → (∀ m' ρ' st', m' < m → J m' ρ' st' → N ρ' st') → c ρ st fun d st1 => ∃ b, d = .bl b ∧ (if b = true then f ρ st1 { nx := N, rt := K.rt, bk := K.nx, ct := N } else K.nx ρ st1)) :
    ∀ (n : Nat) (ρ : Env) (st : Store) (m : Nat), m < n → J m ρ st → whlN c f K n ρ st
  | 0, _, _, _, h, _ => absurd h (Nat.not_lt_zero _)
  | n + 1, ρ, st, m, h, hJ => step m ρ st _ hJ fun m' ρ' st' hm hJ' => whlN_inv J step n ρ' st' m' (by omega) hJ'
/-! ### what built-ins give -/
theorem bools_map (g : D → Bool) : ∀ ds : List D, boolsD (ds.map fun d => .bl (g d)) = some (ds.map g)
  | [] => rfl
  | d :: ds => by simp [boolsD, bools_map g ds]
theorem ints_map (g : D → Int) : ∀ ds : List D, intsD (ds.map fun d => .int (g d)) = some (ds.map g)
  | [] => rfl
  | d :: ds => by simp [intsD, ints_map g ds]
/-! ### data of some size -/
/-- a plain text -/
def ascii (x : Str) : Bool := x.cps.all fun c => decide (c < 128)
theorem ascii_ok {x : Str} (h : ascii x = true) : PyData.strOk x = true := by
  unfold ascii at h
  unfold PyData.strOk
  rw [Array.all_eq_true'] at h ⊢
  intro c hc
  have := h c hc
  simp only [decide_eq_true_eq] at this ⊢
  omega
mutual
/-- plain data: so deep, lists and texts so long -/
def D.ok (b : Nat) : Nat → D → Bool
  | _, .non => true
  | _, .bl _ => true
  | _, .int _ => true
  | _, .str x => ascii x && decide (x.length ≤ b)
  | n, .tup xs => match n with | 0 => false | n + 1 => decide (xs.length ≤ b) && D.oks b n xs
  | n, .lst xs => match n with | 0 => false | n + 1 => decide (xs.length ≤ b) && D.oks b n xs
  | _, _ => false
def D.oks (b : Nat) : Nat → List D → Bool
  | _, [] => true
  | n, x :: xs => D.ok b n x && D.oks b n xs
end
theorem oks_iff {b n : Nat} : ∀ {xs : List D}, D.oks b n xs = true ↔ ∀ x ∈ xs, D.ok b n x = true
  | [] => by simp [D.oks]
  | x :: xs => by simp [D.oks, oks_iff (xs := xs)]
theorem dats_iff {n : Nat} : ∀ {xs : List D}, D.dats n xs = true ↔ ∀ x ∈ xs, D.dat n x = true
  | [] => by simp [D.dats]
  | x :: xs => by simp [D.dats, dats_iff (xs := xs)]
mutual
theorem D.ok.mono {b c : Nat} (hb : b ≤ c) : ∀ {n m : Nat} {d : D}, n ≤ m → D.ok b n d = true → D.ok c m d = true
  | _, _, .non, _, _ => by unfold D.ok; rfl
  | _, _, .bl _, _, _ => by unfold D.ok; rfl
  | _, _, .int _, _, _ => by unfold D.ok; rfl
  | _, _, .str x, _, h => by unfold D.ok at h ⊢; simp only [Bool.and_eq_true, decide_eq_true_eq] at h ⊢; exact ⟨h.1, Nat.le_trans h.2 hb⟩
  | 0, _, .tup _, _, h => by simp [D.ok] at h
  | n + 1, 0, .tup _, h', _ => by omega
  | n + 1, m + 1, .tup xs, h', h => by
    simp only [D.ok, Bool.and_eq_true, decide_eq_true_eq] at h ⊢
    exact ⟨Nat.le_trans h.1 hb, D.oks.mono hb (by omega) h.2⟩
  | 0, _, .lst _, _, h => by simp [D.ok] at h
  | n + 1, 0, .lst _, h', _ => by omega
  | n + 1, m + 1, .lst xs, h', h => by
    simp only [D.ok, Bool.and_eq_true, decide_eq_true_eq] at h ⊢
    exact ⟨Nat.le_trans h.1 hb, D.oks.mono hb (by omega) h.2⟩
  | _, _, .dct _, _, h => by simp [D.ok] at h
  | _, _, .ins _ _, _, h => by simp [D.ok] at h
  | _, _, .loc _, _, h => by simp [D.ok] at h
  | _, _, .clo _, _, h => by simp [D.ok] at h
  | _, _, .ro _, _, h => by simp [D.ok] at h
theorem D.oks.mono {b c : Nat} (hb : b ≤ c) : ∀ {n m : Nat} {d : List D}, n ≤ m → D.oks b n d = true → D.oks c m d = true
  | _, _, [], _, _ => by unfold D.oks; rfl
  | _, _, x :: xs, h', h => by
    simp only [D.oks, Bool.and_eq_true] at h ⊢
    exact ⟨D.ok.mono hb h' h.1, D.oks.mono hb h' h.2⟩
end
mutual
theorem D.ok.dat {b : Nat} : ∀ {n m : Nat} {d : D}, n ≤ m → D.ok b n d = true → d.dat m = true
  | _, _, .non, _, _ => by unfold D.dat; rfl
  | _, _, .bl _, _, _ => by unfold D.dat; rfl
  | _, _, .int _, _, _ => by unfold D.dat; rfl
  | _, _, .str x, _, h => by unfold D.ok at h; unfold D.dat; simp only [Bool.and_eq_true] at h; exact ascii_ok h.1
  | 0, _, .tup _, _, h => by simp [D.ok] at h
  | n + 1, 0, .tup _, h', _ => by omega
  | n + 1, m + 1, .tup xs, h', h => by
    simp only [D.ok, Bool.and_eq_true] at h
    simp only [D.dat]
    exact D.oks.dat (by omega) h.2
  | 0, _, .lst _, _, h => by simp [D.ok] at h
  | n + 1, 0, .lst _, h', _ => by omega
  | n + 1, m + 1, .lst xs, h', h => by
    simp only [D.ok, Bool.and_eq_true] at h
    simp only [D.dat]
    exact D.oks.dat (by omega) h.2
  | _, _, .dct _, _, h => by simp [D.ok] at h
  | _, _, .ins _ _, _, h => by simp [D.ok] at h
  | _, _, .loc _, _, h => by simp [D.ok] at h
  | _, _, .clo _, _, h => by simp [D.ok] at h
  | _, _, .ro _, _, h => by simp [D.ok] at h
theorem D.oks.dat {b : Nat} : ∀ {n m : Nat} {d : List D}, n ≤ m → D.oks b n d = true → D.dats m d = true
  | _, _, [], _, _ => by unfold D.dats; rfl
  | _, _, x :: xs, h', h => by
    simp only [D.oks, D.dats, Bool.and_eq_true] at h ⊢
    exact ⟨D.ok.dat h' h.1, D.oks.dat h' h.2⟩
end
theorem rsv_ok {b n : Nat} {st : Store} {d : D} (h : D.ok b n d = true) : rsv st d = d := by
  cases d <;> first | rfl | simp [D.ok] at h
/-! ### specs -/
/-- no change, a value -/
def pureS (pre : List D → Prop) (val : List D → D) : Spec := fun ds st P _ => pre ds ∧ P (val ds) st
end G
/-! Defs by the head's facts. -/
namespace G
open PySem PySem.Spec PyProof.Rows L2
/-- the context of these defs, methods, names -/
def mkΓ (gl : List (Str × D)) (fs : List (Str × Spec)) : Ctx := ⟨fun x => fs.lookup x, fun _ _ => none, fun x => gl.lookup x, fun _ _ => false, fun _ _ _ _ _ => False⟩
section
variable {W : Wd} {P : Program} {mg : Str → Option Value} {base : Heap}
theorem fn_okD {Γ : Ctx} {k : Nat} {x qual : Str} {s : Stmt} {f : Addr} {fd : FuncData} {κ : Kx} {ps : List Str} {body : Ss} {sp : Spec} (G : Gx Γ W P mg base k) (F : FunD W.K x qual (defArgs s) (defBody s) (defScope s) [] [] f fd) (S : FnScope κ.N ps (defScope s))
    (hf : ∀ f ∈ κ.fns, ∃ sp, Γ.fn f = some sp) (hm : ∀ c m, (c, m) ∈ κ.mes → ∃ sp, Γ.me c m = some sp) (hch : chSs κ (defScope s) body (defBody s) = true) (law : Does Γ κ.N.length ps.length body sp) :
    FnOk P W.w W.K mg base L2.CX0 (k + 1) f fd ps (LS W sp) := by
  refine F.ok S (fun vs H Q E ⟨B, st, ds, P', o, l, h, q⟩ => ?_) (fun cdv A outer s' H vs Q E hr ⟨B, st, ds, P', o, l, h, q⟩ => ?_)
  · rw [l.length]; exact (law _ _ _ h).1
  · have ok : Oks Γ W κ (defScope s) (cxOf L2.CX0 P W.w W.K mg base κ.N qual (defScope s) f cdv A outer s' H E).nox :=
      { hN := rfl, hsc := rfl, nd := S.nd, fns := hf, mes := hm, fx := G.fx hr, kind := S.kind, pas := PassesOwn.never, fnT := fun _ => rfl }
    refine ⟨_, PSs.nox (soSs ok body _ hch), B, _, st, _, start_rep o l, (law _ _ _ h).2, fun ρ' st' σ' H' z r g => q _ _ _ _ z .non r.ob g, fun d st' v H' z r o g => q _ _ _ _ z r o g, fun _ _ _ _ z => z.elim, fun _ _ _ _ z => z.elim⟩
/-- no call keeps it -/
def noSp : Spec := fun _ _ _ _ => False
theorem fn_void {x qual : Str} {s : Stmt} {f : Addr} {fd : FuncData} {N ps : List Str} {sp : Spec} (hsp : ∀ ds st P X, sp ds st P X → False) (F : FunD W.K x qual (defArgs s) (defBody s) (defScope s) [] [] f fd) (S : FnScope N ps (defScope s)) : FnOk P W.w W.K mg base L2.CX0 1 f fd ps (LS W sp) :=
  F.ok S (fun vs H Q E ⟨B, st, ds, P', o, l, h, q⟩ => (hsp _ _ _ _ h).elim) (fun cdv A outer s' H vs Q E hr ⟨B, st, ds, P', o, l, h, q⟩ => (hsp _ _ _ _ h).elim)
theorem cal_okD {k : Nat} {x qual : Str} {s : Stmt} {f : Addr} {fd : FuncData} {ps : List Str} {sp : Spec} (F : FunD W.K x qual (defArgs s) (defBody s) (defScope s) [] [] f fd) (b : Binds W.K fd ps []) (m : mg x = some (.ref f)) (h : FnOk P W.w W.K mg base L2.CX0 k f fd ps (LS W sp)) :
    C8.Cal P W.w W.K mg base k x (LS W sp) [] := ⟨f, fd, ps, [], h, m, F.kp, b, .nil⟩
theorem gx_step {gl : List (Str × D)} {fs : List (Str × Spec)} {k : Nat} {x : Str} {sp : Spec} (G : Gx (mkΓ gl fs) W P mg base k) (c : C8.Cal P W.w W.K mg base (k + 1) x (LS W sp) []) : Gx (mkΓ gl ((x, sp) :: fs)) W P mg base (k + 1) where
  bn := G.bn
  gl := G.gl
  fn := fun f s e => by
    have e : ((x, sp) :: fs).lookup f = some s := e
    rw [List.lookup_cons] at e
    cases q : f == x with
    | true =>
      rw [q] at e
      cases e
      rw [eq_of_beq q]
      exact ⟨k + 1, Nat.le_refl _, c⟩
    | false =>
      rw [q] at e
      obtain ⟨j, hj, h⟩ := G.fn f s e
      exact ⟨j, by omega, h⟩
  cf := fun _ _ _ h => by cases h
  me := fun _ _ _ h => by cases h
  nw := fun _ _ h => by cases h
theorem cal_mono {j k : Nat} {x : Str} {sp : Sp} {w : World} {K : PySem.W.Frag} (h : C8.Cal P w K mg base j x sp []) : C8.Cal P w K mg base j x sp [] := h
end
/-- a def of the module in the head's list -/
def dOf (x : Str) (s : Stmt) : He.DefD := ⟨(x, none), x, x, defArgs s, defBody s, defScope s, [], []⟩
section
variable {W : Wd} {P : Program} {mg : Str → Option Value} {base h : Heap} {fa : List He.Fa} {fn : List He.DefD}
theorem gx_def {gl : List (Str × D)} {fs : List (Str × Spec)} {k : Nat} {x : Str} {s : Stmt} {κ : Kx} {ps : List Str} {body : Ss} {sp : Spec} (KX : W.K.In h) (GM : h.Ns mainGlobals mg) (c : He.SaysD fa fn W.K)
    (i j : Nat) (hd : fn[i]? = some (dOf x s)) (hg : fa[j]? = some (.glo x)) (G : Gx (mkΓ gl fs) W P mg base k) (S : FnScope κ.N ps (defScope s)) (hch : chSs κ (defScope s) body (defBody s) = true)
    (hb : ∀ (kV doc pm : Value) (an : Option Addr) (cdv ct : Value) (us : List Value), us.length = ps.length → bindArgs (PySem.W.fnOf x x (defArgs s) (defBody s) (defScope s) .none kV doc pm an cdv ct) ⟨us, []⟩ = pure (ps.zip us))
    (hf : ∀ f ∈ κ.fns, ∃ sp, (mkΓ gl fs).fn f = some sp) (hm : κ.mes = []) (law : Does (mkΓ gl fs) κ.N.length ps.length body sp) : Gx (mkΓ gl ((x, sp) :: fs)) W P mg base (k + 1) := by
  obtain ⟨fd, F⟩ := c.def_ i (d := dOf x s) hd
  have m := He.glo_ok KX GM (c.fact j (f := .glo x) hg)
  exact gx_step G (cal_okD F (FunD.bindsN F hb) m (fn_okD G F S hf (fun c m e => by rw [hm] at e; cases e) hch law))
theorem gx_void {gl : List (Str × D)} {fs : List (Str × Spec)} {k : Nat} {x : Str} {s : Stmt} {N ps : List Str} {sp : Spec} (KX : W.K.In h) (GM : h.Ns mainGlobals mg) (c : He.SaysD fa fn W.K)
    (i j : Nat) (hd : fn[i]? = some (dOf x s)) (hg : fa[j]? = some (.glo x)) (G : Gx (mkΓ gl fs) W P mg base k) (S : FnScope N ps (defScope s)) (hsp : ∀ ds st P X, sp ds st P X → False)
    (hb : ∀ (kV doc pm : Value) (an : Option Addr) (cdv ct : Value) (us : List Value), us.length = ps.length → bindArgs (PySem.W.fnOf x x (defArgs s) (defBody s) (defScope s) .none kV doc pm an cdv ct) ⟨us, []⟩ = pure (ps.zip us)) : Gx (mkΓ gl ((x, sp) :: fs)) W P mg base (k + 1) := by
  obtain ⟨fd, F⟩ := c.def_ i (d := dOf x s) hd
  have m := He.glo_ok KX GM (c.fact j (f := .glo x) hg)
  refine gx_step G (cal_okD F (FunD.bindsN F hb) m ?_)
  exact (fn_void (W := W) (P := P) (mg := mg) (base := base) hsp F S).mono (by omega)
end
section
variable {α : Type} {p : α → Prop}
theorem hf_nil : ∀ f ∈ ([] : List α), p f := fun f h => by cases h
theorem hf_cons {a : α} {l : List α} (h : p a) (t : ∀ f ∈ l, p f) : ∀ f ∈ a :: l, p f := fun f hf => by
  rcases List.mem_cons.mp hf with rfl | hf
  · exact h
  · exact t f hf
end
/-- a global that is told -/
def GlOk (W : Wd) (mg : Str → Option Value) (x : Str) (d : D) : Prop := ∃ v u, mg x = some u ∧ RelV v u ∧ ∀ B st H, Rep W B st H v d
theorem gl_nil {W : Wd} {mg : Str → Option Value} : ∀ x d, ([] : List (Str × D)).lookup x = some d → GlOk W mg x d := fun x d h => by cases h
theorem gl_cons {W : Wd} {mg : Str → Option Value} {y : Str} {e : D} {l : List (Str × D)} (h : GlOk W mg y e) (t : ∀ x d, l.lookup x = some d → GlOk W mg x d) : ∀ x d, ((y, e) :: l).lookup x = some d → GlOk W mg x d := fun x d hx => by
  rw [List.lookup_cons] at hx
  cases q : x == y with
  | true => rw [q] at hx; cases hx; rw [eq_of_beq q]; exact h
  | false => rw [q] at hx; exact t x d hx
theorem gl_str {W : Wd} {mg : Str → Option Value} {x z : Str} (h : ∃ t, mg x = some (.str z t)) : GlOk W mg x (.str z) := by
  obtain ⟨t, h⟩ := h
  exact ⟨.str z, _, h, ⟨t, rfl⟩, fun _ _ _ => .str z⟩
theorem gl_int {W : Wd} {mg : Str → Option Value} {x : Str} {i : Int} (h : ∃ t, mg x = some (.int i t)) : GlOk W mg x (.int i) := by
  obtain ⟨t, h⟩ := h
  exact ⟨.int i, _, h, ⟨t, rfl⟩, fun _ _ _ => .int i⟩
theorem gx_nil {W : Wd} {P : Program} {mg : Str → Option Value} {base : Heap} {gl : List (Str × D)} (bn : ∀ x ∈ bnames, mg x = none) (g : ∀ x d, gl.lookup x = some d → GlOk W mg x d) : Gx (mkΓ gl []) W P mg base 0 where
  bn := bn
  gl := g
  fn := fun f s e => by cases e
  cf := fun _ _ _ h => by cases h
  me := fun _ _ _ h => by cases h
  nw := fun _ _ h => by cases h
/-- the script: whole numbers -/
def Ints (xs : List D) : Prop := ∀ x ∈ xs, ∃ i, x = .int i
/-- every law: True -/
def sp_law : Spec := fun ds st P _ => ∃ xs, ds = [.ro xs] ∧ Ints xs ∧ xs.length ≤ 63 ∧ ∀ st', P (.bl true) st'
theorem ints_rep {W : Wd} {B : Addr → Prop} {st : Store} {H : Hp} : ∀ ns : List Int, RepL W B st H (ns.map V.int) (ns.map D.int)
  | [] => .nil
  | n :: ns => .cons (.int n) (ints_rep ns)
theorem end_law {W : Wd} {H : Hp} {a : Addr} {ns : List Int} (hl : ns.length ≤ 63) (hO : Only H) (hS : SqL W.K H a (ns.map V.int)) : LS W sp_law [.ref a] H (fun v _ => v = .bl true) (fun _ _ _ => False) := by
  refine ⟨fun _ => False, fun _ => none, [.ro (ns.map D.int)], fun d _ => d = .bl true, ⟨fun _ _ h => (by cases h), fun _ h => h.elim⟩, .cons (.ro ?_ (ints_rep ns)) .nil, ⟨_, rfl, fun x hx => ?_, by simpa using hl, fun _ => rfl⟩, fun d st' v H' hd r _ _ => ?_⟩
  · rcases hS with (h | ⟨o, h⟩) | h
    · rcases hO a with h' | ⟨o, xs, h'⟩
      · rw [h'] at h; cases h
      · rw [h'] at h; cases h
    · exact .inl ⟨⟨rfl, fun z => z⟩, o, h⟩
    · exact .inr h
  · obtain ⟨i, _, rfl⟩ := List.mem_map.mp hx
    exact ⟨i, rfl⟩
  · subst hd
    cases r
    rfl
end G
/-! Readings simplified. -/
namespace G
open PySem PySem.Spec PyProof.Rows L2
def ty1 : Ty → D → Bool
  | t, .bl _ => t == .bool || t == .int
  | t, .int _ => t == .int
  | t, .str _ => t == .str
  | t, .tup _ => t == .tuple
  | t, .lst _ => t == .list
  | _, _ => false
def clsB : Ty → Bool | .cls _ => true | _ => false
theorem isTys_ok {b n : Nat} {st : Store} {d : D} (h : D.ok b n d = true) : ∀ {ts : List Ty}, ts.all (fun t => !clsB t) = true → isTys ts (rsv st d) = some (ts.any fun t => ty1 t d)
  | [], _ => rfl
  | t :: ts, ht => by
    rw [List.all_cons, Bool.and_eq_true] at ht
    unfold isTys
    rw [isTys_ok h ht.2, rsv_ok h]
    have : isTy t d = some (ty1 t d) := by
      have := ht.1
      cases t <;> cases d <;> first | rfl | (simp [D.ok] at h; done) | (simp [clsB] at this; done)
    rw [this]
    rfl
theorem startE_eq (n : Nat) (ds : List D) : startE n ds = ds.map some ++ List.replicate (n - ds.length) none := rfl
theorem ty_int {x : D} : ty1 .int x = true ↔ (∃ i, x = .int i) ∨ ∃ b, x = .bl b := by
  cases x <;> simp [ty1] <;> rfl
theorem ty_bool {x : D} : ty1 .bool x = true ↔ ∃ b, x = .bl b := by
  cases x <;> simp [ty1] <;> decide
theorem ty_str {x : D} : ty1 .str x = true ↔ ∃ b, x = .str b := by
  cases x <;> simp [ty1] <;> decide
theorem ty_tup {x : D} : ty1 .tuple x = true ↔ ∃ b, x = .tup b := by
  cases x <;> simp [ty1] <;> decide
theorem ty_lst {x : D} : ty1 .list x = true ↔ ∃ b, x = .lst b := by
  cases x <;> simp [ty1] <;> decide
theorem ok_tup {b n : Nat} {xs : List D} (h : D.ok b n (.tup xs) = true) : ∃ m, n = m + 1 ∧ xs.length ≤ b ∧ ∀ x ∈ xs, D.ok b m x = true := by
  cases n with
  | zero => simp [D.ok] at h
  | succ n =>
    simp only [D.ok, Bool.and_eq_true, decide_eq_true_eq, oks_iff] at h
    exact ⟨n, rfl, h.1, h.2⟩
theorem ok_lst {b n : Nat} {xs : List D} (h : D.ok b n (.lst xs) = true) : ∃ m, n = m + 1 ∧ xs.length ≤ b ∧ ∀ x ∈ xs, D.ok b m x = true := by
  cases n with
  | zero => simp [D.ok] at h
  | succ n =>
    simp only [D.ok, Bool.and_eq_true, decide_eq_true_eq, oks_iff] at h
    exact ⟨n, rfl, h.1, h.2⟩
theorem ok_str {b n : Nat} {x : Str} (h : D.ok b n (.str x) = true) : PyData.strOk x = true ∧ x.length ≤ b := by
  have : ascii x = true ∧ x.length ≤ b := by simpa [D.ok] using h
  exact ⟨ascii_ok this.1, this.2⟩
end G
/-! What the defs of worlds give. -/
namespace G
open PySem PySem.Spec PyProof.Rows L2
def b_is_between : Ss := (.cons (.ret (.bop true (.cons (.isi (.var 0) [.int]) (.cons (.not (.isi (.var 0) [.bool])) (.cons (.cmp2 .LtE .LtE (.var 1) (.var 0) (.var 2)) .nil))))) .nil)
def b_is_name : Ss := (.cons (.ret (.bop true (.cons (.isi (.var 0) [.str]) (.cons (.cmp2 .LtE .LtE (.int 1) (.bi .len (.var 0)) (.int 8)) (.cons (.bi .all (.fr (.comp [1] (.var 1) (.of (.var 0)) (.cmp .In (.var 1) (.glo "LETTERS"))))) .nil))))) .nil)
def b_rises : Ss := (.cons (.ret (.bi .all (.fr (.comp [1, 2] (.tup (.cons (.var 1) (.cons (.var 2) .nil))) (.zip (.var 0) (.slc (.var 0) (.at (.int 1)) .no)) (.cmp .Lt (.var 1) (.var 2)))))) .nil)
def b_are_facts : Ss := (.cons (.ret (.bop true (.cons (.isi (.var 0) [.tuple]) (.cons (.cmp2 .LtE .LtE (.int 1) (.bi .len (.var 0)) (.int 6)) (.cons (.bi .all (.fr (.comp [1] (.var 1) (.of (.var 0)) (.call "is_name" (.cons (.var 1) .nil))))) (.cons (.call "rises" (.cons (.var 0) .nil)) .nil)))))) .nil)
def b_are_some : Ss := (.cons (.ife (.bop false (.cons (.not (.isi (.var 1) [.tuple])) (.cons (.not (.bi .all (.fr (.comp [2] (.var 2) (.of (.var 1)) (.bop true (.cons (.isi (.var 2) [.str]) (.cons (.cmp .In (.var 2) (.var 0)) .nil))))))) .nil))) (.cons (.ret (.bl false)) .nil) .nil) (.cons (.ret (.call "rises" (.cons (.var 1) .nil))) .nil))
def b_is_pair : Ss := (.cons (.ife (.bop false (.cons (.not (.isi (.var 1) [.tuple])) (.cons (.cmp .NotEq (.bi .len (.var 1)) (.int 2)) (.cons (.not (.bi .all (.fr (.comp [2] (.var 2) (.of (.var 1)) (.call "are_some" (.cons (.var 0) (.cons (.var 2) .nil))))))) .nil)))) (.cons (.ret (.bl false)) .nil) .nil) (.cons (.ret (.not (.bi .any (.fr (.comp [2] (.var 2) (.of (.idx (.var 1) (.int 0))) (.cmp .In (.var 2) (.idx (.var 1) (.int 1)))))))) .nil))
def b_is_deed : Ss := (.cons (.ife (.bop false (.cons (.not (.isi (.var 1) [.tuple])) (.cons (.cmp .NotEq (.bi .len (.var 1)) (.int 4)) (.cons (.not (.call "is_name" (.cons (.idx (.var 1) (.int 0)) .nil))) (.cons (.not (.call "is_between" (.cons (.idx (.var 1) (.int 1)) (.cons (.int 1) (.cons (.int 1000) .nil))))) .nil))))) (.cons (.ret (.bl false)) .nil) .nil) (.cons (.ife (.bop false (.cons (.not (.call "is_pair" (.cons (.var 0) (.cons (.idx (.var 1) (.int 2)) .nil)))) (.cons (.not (.isi (.idx (.var 1) (.int 3)) [.tuple])) (.cons (.not (.cmp2 .LtE .LtE (.int 1) (.bi .len (.idx (.var 1) (.int 3))) (.int 3))) .nil)))) (.cons (.ret (.bl false)) .nil) .nil) (.cons (.ret (.bi .all (.fr (.comp [2] (.var 2) (.of (.idx (.var 1) (.int 3))) (.call "is_pair" (.cons (.var 0) (.cons (.var 2) .nil))))))) .nil)))
def b_is_meddler : Ss := (.cons (.ife (.bop false (.cons (.not (.isi (.var 1) [.tuple])) (.cons (.cmp .NotEq (.bi .len (.var 1)) (.int 3)) (.cons (.not (.call "is_name" (.cons (.idx (.var 1) (.int 0)) .nil))) .nil)))) (.cons (.ret (.bl false)) .nil) .nil) (.cons (.ret (.bop true (.cons (.call "is_pair" (.cons (.var 0) (.cons (.idx (.var 1) (.int 1)) .nil))) (.cons (.call "is_pair" (.cons (.var 0) (.cons (.idx (.var 1) (.int 2)) .nil))) .nil)))) .nil))
def b_are_named : Ss := (.cons (.ret (.bop true (.cons (.isi (.var 0) [.tuple]) (.cons (.cmp .LtE (.bi .len (.var 0)) (.var 1)) (.cons (.call "rises" (.cons (.fr (.comp [2] (.var 2) (.of (.var 0)) (.idx (.var 2) (.int 0)))) .nil)) .nil))))) .nil)
def b_is_world : Ss := (.cons (.ife (.bop false (.cons (.not (.isi (.var 0) [.tuple])) (.cons (.cmp .NotEq (.bi .len (.var 0)) (.int 3)) (.cons (.not (.call "are_facts" (.cons (.idx (.var 0) (.int 0)) .nil))) .nil)))) (.cons (.ret (.bl false)) .nil) .nil) (.cons (.asg (.tup (.cons (.var 1) (.cons (.var 2) (.cons (.var 3) .nil)))) (.var 0)) (.cons (.ife (.bop false (.cons (.not (.isi (.var 2) [.tuple])) (.cons (.not (.bi .all (.fr (.comp [4] (.var 4) (.of (.var 2)) (.call "is_deed" (.cons (.var 1) (.cons (.var 4) .nil))))))) .nil))) (.cons (.ret (.bl false)) .nil) .nil) (.cons (.ife (.bop false (.cons (.not (.isi (.var 3) [.tuple])) (.cons (.not (.bi .all (.fr (.comp [5] (.var 5) (.of (.var 3)) (.call "is_meddler" (.cons (.var 1) (.cons (.var 5) .nil))))))) .nil))) (.cons (.ret (.bl false)) .nil) .nil) (.cons (.ret (.bop true (.cons (.call "are_named" (.cons (.var 2) (.cons (.int 8) .nil))) (.cons (.call "are_named" (.cons (.var 3) (.cons (.int 4) .nil))) .nil)))) .nil)))))
def b_is_state : Ss := (.cons (.ret (.call "are_some" (.cons (.idx (.var 0) (.int 0)) (.cons (.var 1) .nil)))) .nil)
def b_is_condition : Ss := (.cons (.ret (.call "is_pair" (.cons (.idx (.var 0) (.int 0)) (.cons (.var 1) .nil)))) .nil)
def b_is_place : Ss := (.cons (.ife (.bop false (.cons (.not (.isi (.var 1) [.tuple])) (.cons (.cmp .NotEq (.bi .len (.var 1)) (.int 3)) (.cons (.not (.call "is_state" (.cons (.var 0) (.cons (.idx (.var 1) (.int 0)) .nil)))) .nil)))) (.cons (.ret (.bl false)) .nil) .nil) (.cons (.ret (.bop true (.cons (.call "is_between" (.cons (.idx (.var 1) (.int 1)) (.cons (.int 0) (.cons (.glo "MOST") .nil)))) (.cons (.call "is_between" (.cons (.idx (.var 1) (.int 2)) (.cons (.int 0) (.cons (.glo "MOST") .nil)))) .nil)))) .nil))
def b__law_is_name : Ss := (.cons (.ife (.bop false (.cons (.not (.isi (.var 0) [.str])) (.cons (.not (.cmp2 .LtE .LtE (.int 1) (.bi .len (.var 0)) (.int 8))) .nil))) (.cons (.ret (.bl false)) .nil) .nil) (.cons (.ret (.cmp .Eq (.fr (.compif [1] (.var 1) (.of (.var 0)) (.cmp .NotIn (.var 1) (.str "abcdefghijklmnopqrstuvwxyz")) (.var 1))) (.fr (.disp .nil)))) .nil))
def b__law_are_rising : Ss := (.cons (.ife (.not (.isi (.var 0) [.tuple])) (.cons (.ret (.bl false)) .nil) .nil) (.cons (.ret (.cmp .Eq (.fr (.compif [1, 2] (.tup (.cons (.var 1) (.cons (.var 2) .nil))) (.zip (.var 0) (.slc (.var 0) (.at (.int 1)) .no)) (.not (.cmp .Lt (.var 1) (.var 2))) (.int 1))) (.fr (.disp .nil)))) .nil))
def b__law_are_some : Ss := (.cons (.ife (.not (.isi (.var 1) [.tuple])) (.cons (.ret (.bl false)) .nil) .nil) (.cons (.ife (.cmp .NotEq (.fr (.compif [2] (.var 2) (.of (.var 1)) (.bop false (.cons (.not (.isi (.var 2) [.str])) (.cons (.cmp .NotIn (.var 2) (.var 0)) .nil))) (.var 2))) (.fr (.disp .nil))) (.cons (.ret (.bl false)) .nil) .nil) (.cons (.ret (.call "_law_are_rising" (.cons (.var 1) .nil))) .nil)))
def b__law_is_pair : Ss := (.cons (.ife (.bop false (.cons (.not (.isi (.var 1) [.tuple])) (.cons (.cmp .NotEq (.bi .len (.var 1)) (.int 2)) .nil))) (.cons (.ret (.bl false)) .nil) .nil) (.cons (.ife (.bop false (.cons (.not (.call "_law_are_some" (.cons (.var 0) (.cons (.idx (.var 1) (.int 0)) .nil)))) (.cons (.not (.call "_law_are_some" (.cons (.var 0) (.cons (.idx (.var 1) (.int 1)) .nil)))) .nil))) (.cons (.ret (.bl false)) .nil) .nil) (.cons (.ret (.cmp .Eq (.fr (.compif [2] (.var 2) (.of (.idx (.var 1) (.int 0))) (.cmp .In (.var 2) (.idx (.var 1) (.int 1))) (.var 2))) (.fr (.disp .nil)))) .nil)))
def b__law_is_whole : Ss := (.cons (.ret (.bop true (.cons (.isi (.var 0) [.int]) (.cons (.not (.isi (.var 0) [.bool])) (.cons (.cmp2 .LtE .LtE (.var 1) (.var 0) (.var 2)) .nil))))) .nil)
def b__law_truly : Ss := (.cons (.ret (.bop true (.cons (.isi (.var 0) [.bool]) (.cons (.cmp .Eq (.var 0) (.var 1)) .nil)))) .nil)
def b__law_is_place : Ss := (.cons (.ife (.bop false (.cons (.not (.isi (.var 1) [.tuple])) (.cons (.cmp .NotEq (.bi .len (.var 1)) (.int 3)) (.cons (.not (.call "_law_are_some" (.cons (.idx (.var 0) (.int 0)) (.cons (.idx (.var 1) (.int 0)) .nil)))) .nil)))) (.cons (.ret (.bl false)) .nil) .nil) (.cons (.ret (.bop true (.cons (.call "_law_is_whole" (.cons (.idx (.var 1) (.int 1)) (.cons (.int 0) (.cons (.int 3) .nil)))) (.cons (.call "_law_is_whole" (.cons (.idx (.var 1) (.int 2)) (.cons (.int 0) (.cons (.int 3) .nil)))) .nil)))) .nil))
def b__law_are_deeds_1 : Ss := (.cons (.ife (.bop false (.cons (.not (.isi (.var 5) [.tuple])) (.cons (.cmp .NotEq (.bi .len (.var 5)) (.var 3)) (.cons (.not (.call "_law_is_name" (.cons (.idx (.var 5) (.int 0)) .nil))) (.cons (.not (.cmp .Lt (.var 4) (.idx (.var 5) (.int 0)))) .nil))))) (.cons (.ret (.bl false)) .nil) .nil) (.cons (.asg (.var 4) (.idx (.var 5) (.int 0))) (.cons (.ife (.bop true (.cons (.cmp .Eq (.var 3) (.int 3)) (.cons (.bop false (.cons (.not (.call "_law_is_pair" (.cons (.var 0) (.cons (.idx (.var 5) (.int 1)) .nil)))) (.cons (.not (.call "_law_is_pair" (.cons (.var 0) (.cons (.idx (.var 5) (.int 2)) .nil)))) .nil))) .nil))) (.cons (.ret (.bl false)) .nil) .nil) (.cons (.ife (.cmp .Eq (.var 3) (.int 4)) (.cons (.ife (.bop false (.cons (.not (.call "_law_is_whole" (.cons (.idx (.var 5) (.int 1)) (.cons (.int 1) (.cons (.int 1000) .nil))))) (.cons (.not (.call "_law_is_pair" (.cons (.var 0) (.cons (.idx (.var 5) (.int 2)) .nil)))) (.cons (.not (.isi (.idx (.var 5) (.int 3)) [.tuple])) .nil)))) (.cons (.ret (.bl false)) .nil) .nil) (.cons (.ife (.not (.cmp2 .Lt .Lt (.int 0) (.bi .len (.idx (.var 5) (.int 3))) (.int 4))) (.cons (.ret (.bl false)) .nil) .nil) (.cons (.ife (.cmp .NotEq (.fr (.compif [6] (.var 6) (.of (.idx (.var 5) (.int 3))) (.not (.call "_law_is_pair" (.cons (.var 0) (.cons (.var 6) .nil)))) (.var 6))) (.fr (.disp .nil))) (.cons (.ret (.bl false)) .nil) .nil) .nil))) .nil) .nil))))
def b__law_are_deeds : Ss := (.cons (.ife (.bop false (.cons (.not (.isi (.var 1) [.tuple])) (.cons (.cmp .Gt (.bi .len (.var 1)) (.var 2)) .nil))) (.cons (.ret (.bl false)) .nil) .nil) (.cons (.asg (.var 4) (.str "")) (.cons (.for (.var 5) (.of (.var 1)) b__law_are_deeds_1) (.cons (.ret (.bl true)) .nil))))
def b__law_is_world : Ss := (.cons (.ife (.bop false (.cons (.not (.isi (.var 0) [.tuple])) (.cons (.cmp .NotEq (.bi .len (.var 0)) (.int 3)) (.cons (.not (.isi (.idx (.var 0) (.int 0)) [.tuple])) .nil)))) (.cons (.ret (.bl false)) .nil) .nil) (.cons (.ife (.bop false (.cons (.not (.cmp2 .Lt .Lt (.int 0) (.bi .len (.idx (.var 0) (.int 0))) (.int 7))) (.cons (.cmp .NotEq (.fr (.compif [1] (.var 1) (.of (.idx (.var 0) (.int 0))) (.not (.call "_law_is_name" (.cons (.var 1) .nil))) (.var 1))) (.fr (.disp .nil))) .nil))) (.cons (.ret (.bl false)) .nil) .nil) (.cons (.ife (.not (.call "_law_are_rising" (.cons (.idx (.var 0) (.int 0)) .nil))) (.cons (.ret (.bl false)) .nil) .nil) (.cons (.ret (.bop true (.cons (.call "_law_are_deeds" (.cons (.idx (.var 0) (.int 0)) (.cons (.idx (.var 0) (.int 1)) (.cons (.int 8) (.cons (.int 4) .nil))))) (.cons (.call "_law_are_deeds" (.cons (.idx (.var 0) (.int 0)) (.cons (.idx (.var 0) (.int 2)) (.cons (.int 4) (.cons (.int 3) .nil))))) .nil)))) .nil))))
abbrev OK (d : D) : Prop := D.ok 1000 60 d = true
theorem ok_le {b n : Nat} {d : D} (h : D.ok b n d = true) (hb : b ≤ 1000 := by decide) (hn : n ≤ 60 := by decide) : OK d := D.ok.mono hb hn h
section
variable {st : Store} {a b : Int} {k : Bool → Prop}
theorem ci_eq : cmpR st .Eq (.int a) (.int b) k = k (decide (a = b)) := by simp [cmpR, rsv, D.dat, D.eqv]
theorem ci_ne : cmpR st .NotEq (.int a) (.int b) k = k (!decide (a = b)) := by simp [cmpR, rsv, D.dat, D.eqv]
theorem ci_lt : cmpR st .Lt (.int a) (.int b) k = k (decide (a < b)) := by simp [cmpR, D.dat, D.alike, D.lt]
theorem ci_le : cmpR st .LtE (.int a) (.int b) k = k (decide (a ≤ b)) := rfl
theorem ci_gt : cmpR st .Gt (.int a) (.int b) k = k (decide (b < a)) := rfl
theorem ci_ge : cmpR st .GtE (.int a) (.int b) k = k (decide (b ≤ a)) := rfl
end
/-! ### comprehensions under all, any, == [] -/
theorem sz1000 {n : Nat} (h : n ≤ 1000) : n ≤ sizeLine := Nat.le_trans h (by decide)
theorem comp_all {f : D → Store → (Option D → Store → Prop) → Prop} {ds : List D} {st : Store} {P : Post} (g : D → Bool) (hl : ds.length ≤ 1000) (h : ∀ d ∈ ds, ∀ k : Option D → Store → Prop, k (some (.bl (g d))) st → f d st k) (q : P (.bl (ds.all g)) st) :
    turns f ds st [] fun xs st2 => biR st2 .all (.lst xs) fun r => P r st2 := by
  refine turns_map (g := fun d => .bl (g d)) ds [] (by simpa using sz1000 hl) h ?_
  refine ⟨_, ds.map g, rfl, by simpa using bools_map g ds, ?_⟩
  simpa [List.all_map, Function.comp] using q
theorem comp_any {f : D → Store → (Option D → Store → Prop) → Prop} {ds : List D} {st : Store} {P : Post} (g : D → Bool) (hl : ds.length ≤ 1000) (h : ∀ d ∈ ds, ∀ k : Option D → Store → Prop, k (some (.bl (g d))) st → f d st k) (q : P (.bl (ds.any g)) st) :
    turns f ds st [] fun xs st2 => biR st2 .any (.lst xs) fun r => P r st2 := by
  refine turns_map (g := fun d => .bl (g d)) ds [] (by simpa using sz1000 hl) h ?_
  refine ⟨_, ds.map g, rfl, by simpa using bools_map g ds, ?_⟩
  simpa [List.any_map, Function.comp] using q
theorem eqv_nil (xs : List D) : (D.lst xs).eqv (.lst []) = xs.isEmpty := by
  cases xs <;> simp [D.eqv, D.eqvs]
theorem comp_nil {f : D → Store → (Option D → Store → Prop) → Prop} {ds : List D} {st : Store} {K : Bool → Store → Prop} (c : D → Bool) (g : D → D) (hl : ds.length ≤ 1000) (hg : ∀ d ∈ ds, (g d).dat 59 = true) (h : ∀ d ∈ ds, ∀ k : Option D → Store → Prop, (c d = true → k (some (g d)) st) → (c d = false → k none st) → f d st k) (q : K (!ds.any c) st) :
    turns f ds st [] fun xs st2 => cmpR st2 .Eq (.lst xs) (.lst []) fun z => K z st2 := by
  refine turns_filter (c := c) (g := g) ds [] (by simpa using sz1000 hl) h ?_
  refine ⟨?_, ?_, ?_⟩
  · simp only [List.nil_append, rsv, D.dat, dats_iff]
    intro x hx
    obtain ⟨y, hy, rfl⟩ := List.mem_map.mp hx
    exact hg y (List.mem_filter.mp hy).1
  · simp [rsv, D.dat, D.dats]
  · have e : (List.map g (List.filter c ds)).isEmpty = !ds.any c := by
      rw [Bool.eq_iff_iff]
      simp [List.isEmpty_iff, List.filter_eq_nil_iff, List.any_eq_false]
    simpa [rsv, eqv_nil, e] using q
theorem comp_ne {f : D → Store → (Option D → Store → Prop) → Prop} {ds : List D} {st : Store} {K : Bool → Store → Prop} (c : D → Bool) (g : D → D) (hl : ds.length ≤ 1000) (hg : ∀ d ∈ ds, (g d).dat 59 = true) (h : ∀ d ∈ ds, ∀ k : Option D → Store → Prop, (c d = true → k (some (g d)) st) → (c d = false → k none st) → f d st k) (q : K (ds.any c) st) :
    turns f ds st [] fun xs st2 => cmpR st2 .NotEq (.lst xs) (.lst []) fun z => K z st2 := by
  have := comp_nil (K := fun z st => K (!z) st) c g hl hg h (by simpa using q)
  exact this
/-! ### the defs -/
section
variable {Γ : Ctx}
def isBetween (x : D) (lo hi : Int) : Bool := match x with | .int i => decide (lo ≤ i) && decide (i ≤ hi) | _ => false
def sp_is_between : Spec := fun ds st P _ => ∃ x lo hi, ds = [x, .int lo, .int hi] ∧ OK x ∧ P (.bl (isBetween x lo hi)) st
theorem d_is_between : Does Γ 3 3 b_is_between sp_is_between := by
  rintro ds st P ⟨x, lo, hi, rfl, hx, hP⟩
  refine ⟨rfl, ?_⟩
  simp [b_is_between, denSs, denS, den, denB, startE, isTys_ok hx, clsB]
  cases x <;> simp [ty1, isBetween, cmpR] at hP ⊢ <;> try exact hP
  rename_i i
  by_cases h : lo ≤ i <;> simp [h] at hP ⊢ <;> exact hP
theorem d__law_is_whole : Does Γ 3 3 b__law_is_whole sp_is_between := d_is_between
def letters : Str := "abcdefghijklmnopqrstuvwxyz"
def isLetter (d : D) : Bool := match d with | .str c => !(Builtin.Str.occurrences letters c 0 letters.length 1).isEmpty | _ => false
def chars (s : Str) : List D := s.cps.toList.map fun c => .str ⟨#[c]⟩
def isName (x : D) : Bool := match x with | .str s => decide (1 ≤ s.length) && decide (s.length ≤ 8) && (chars s).all isLetter | _ => false
def sp_is_name : Spec := fun ds st P _ => ∃ x, ds = [x] ∧ OK x ∧ P (.bl (isName x)) st
theorem chars_len (s : Str) : (chars s).length = s.length := by unfold chars; rw [List.length_map, Array.length_toList]; rfl
theorem d_is_name (hg : Γ.gl "LETTERS" = some (.str letters)) : Does Γ 2 1 b_is_name sp_is_name := by
  rintro ds st P ⟨x, rfl, hx, hP⟩
  refine ⟨rfl, ?_⟩
  simp [b_is_name, denSs, denS, den, denB, denP, denI, startE, isTys_ok hx, clsB, hg]
  cases x <;> simp [ty1, isName] at hP ⊢ <;> try exact hP
  rename_i s
  have hs : s.length ≤ 1000 := (ok_str hx).2
  refine .inr (.inl ⟨s, rfl, sz1000 hs, ?_⟩)
  simp only [cmpR]
  by_cases h1 : 1 ≤ (s.length : Int)
  · have h1' : 1 ≤ s.length := by omega
    by_cases h2 : (s.length : Int) ≤ 8
    · have h2' : s.length ≤ 8 := by omega
      simp [h1, h2, h1', h2'] at hP ⊢
      show turns _ (chars s) st [] _
      refine comp_all isLetter (by rw [chars_len]; exact hs) (fun d hd k hk => ?_) hP
      obtain ⟨c, _, rfl⟩ := List.mem_map.mp hd
      simpa [asg, wipeE, cmpR, isLetter] using hk
    · have h2' : ¬ s.length ≤ 8 := by omega
      simp [h1, h2, h1', h2'] at hP ⊢
      exact hP
  · have h1' : ¬ 1 ≤ s.length := by omega
    simp [h1, h1'] at hP ⊢
    exact hP
theorem d__law_is_name : Does Γ 2 1 b__law_is_name sp_is_name := by
  rintro ds st P ⟨x, rfl, hx, hP⟩
  refine ⟨rfl, ?_⟩
  simp [b__law_is_name, denSs, denS, den, denB, denEs, denP, denI, startE, isTys_ok hx, clsB]
  cases x <;> simp [ty1, isName] at hP ⊢ <;> try exact hP
  rename_i s
  have hs : s.length ≤ 1000 := (ok_str hx).2
  have hz : biR st Bi.len (.str s) = fun k => biR st Bi.len (.str s) k := rfl
  refine .inr (.inl ⟨s, rfl, sz1000 hs, ?_⟩)
  simp only [cmpR]
  by_cases h1 : 1 ≤ (s.length : Int)
  · have h1' : 1 ≤ s.length := by omega
    by_cases h2 : (s.length : Int) ≤ 8
    · have h2' : s.length ≤ 8 := by omega
      simp [h1, h2, h1', h2'] at hP ⊢
      show turns _ (chars s) st [] _
      refine comp_nil (K := fun z st => P (.bl z) st) (fun d => !isLetter d) id (by rw [chars_len]; exact hs) (fun d hd => ?_) (fun d hd k hk1 hk2 => ?_) ?_
      · obtain ⟨c, hc, rfl⟩ := List.mem_map.mp hd
        have hall := (ok_str hx).1
        simp only [D.dat, PyData.strOk, Array.all_eq_true', decide_eq_true_eq, id] at hall ⊢
        intro y hy
        have e : y = c := by simpa using hy
        rw [e]
        exact hall c (by simpa using hc)
      · obtain ⟨c, _, rfl⟩ := List.mem_map.mp hd
        simp [asg, wipeE, cmpR, isLetter] at hk1 hk2 ⊢
        split
        · exact hk1 ‹_›
        · exact hk2 ‹_›
      · have e : (!(chars s).any fun d => !isLetter d) = (chars s).all isLetter := by
          rw [Bool.eq_iff_iff]; simp
        rw [e]; exact hP
    · have h2' : ¬ s.length ≤ 8 := by omega
      simp [h1, h2, h1', h2'] at hP ⊢
      exact hP
  · have h1' : ¬ 1 ≤ s.length := by omega
    simp [h1, h1'] at hP ⊢
    exact hP
/-! rising -/
def rises : List D → Bool
  | a :: b :: r => a.lt b && rises (b :: r)
  | _ => true
theorem cut1 (xs : List D) : cutD xs (some 1) none = xs.drop 1 := by
  unfold cutD
  show (xs.drop (HT.sIx xs.length 0 (some ((1 : Nat) : Int)))).take (xs.length - HT.sIx xs.length 0 (some ((1 : Nat) : Int))) = _
  rw [HT.sIx_nat]
  cases xs with
  | nil => rfl
  | cons x xs =>
    simp only [List.length_cons, List.drop_succ_cons, List.drop_zero]
    have e : min 1 (xs.length + 1) = 1 := by omega
    rw [e, List.drop_succ_cons, List.drop_zero]
    exact List.take_of_length_le (by omega)
def pairLt (d : D) : Bool := match d with | .tup [a, b] => a.lt b | _ => false
theorem rises_zip : ∀ xs : List D, (zipD xs (xs.drop 1)).all pairLt = rises xs
  | [] => rfl
  | [_] => rfl
  | a :: b :: r => by
    have := rises_zip (b :: r)
    simp only [List.drop_succ_cons, List.drop_zero] at this ⊢
    rw [show zipD (a :: b :: r) (b :: r) = .tup [a, b] :: zipD (b :: r) r from rfl, List.all_cons, this]
    rfl
theorem zip_mem : ∀ {xs ys : List D} {d : D}, d ∈ zipD xs ys → ∃ x y, x ∈ xs ∧ y ∈ ys ∧ d = .tup [x, y]
  | [], _, d, h => by simp [zipD] at h
  | _ :: _, [], d, h => by simp [zipD] at h
  | x :: xs, y :: ys, d, h => by
    rcases List.mem_cons.mp h with rfl | h
    · exact ⟨x, y, List.mem_cons_self, List.mem_cons_self, rfl⟩
    · obtain ⟨a, b, h1, h2, h3⟩ := zip_mem h
      exact ⟨a, b, List.mem_cons_of_mem _ h1, List.mem_cons_of_mem _ h2, h3⟩
/-- items that can be put in order -/
def Sortable (xs : List D) : Prop := xs.length ≤ 1000 ∧ (∀ x ∈ xs, x.dat 58 = true) ∧ ∀ x ∈ xs, ∀ y ∈ xs, x.alike y = true
mutual
theorem D.dat.mono : ∀ {n m : Nat} {d : D}, n ≤ m → d.dat n = true → d.dat m = true
  | _, _, .non, _, _ => by unfold D.dat; rfl
  | _, _, .bl _, _, _ => by unfold D.dat; rfl
  | _, _, .int _, _, _ => by unfold D.dat; rfl
  | _, _, .str x, _, h => by unfold D.dat at h ⊢; exact h
  | 0, _, .tup _, _, h => by simp [D.dat] at h
  | n + 1, 0, .tup _, h', _ => by omega
  | n + 1, m + 1, .tup xs, h', h => by simp only [D.dat] at h ⊢; exact D.dats.mono (by omega) h
  | 0, _, .lst _, _, h => by simp [D.dat] at h
  | n + 1, 0, .lst _, h', _ => by omega
  | n + 1, m + 1, .lst xs, h', h => by simp only [D.dat] at h ⊢; exact D.dats.mono (by omega) h
  | _, _, .dct _, _, h => by simp [D.dat] at h
  | _, _, .ins _ _, _, h => by simp [D.dat] at h
  | _, _, .loc _, _, h => by simp [D.dat] at h
  | _, _, .clo _, _, h => by simp [D.dat] at h
  | _, _, .ro _, _, h => by simp [D.dat] at h
theorem D.dats.mono : ∀ {n m : Nat} {d : List D}, n ≤ m → D.dats n d = true → D.dats m d = true
  | _, _, [], _, _ => by unfold D.dats; rfl
  | _, _, x :: xs, h', h => by
    simp only [D.dats, Bool.and_eq_true] at h ⊢
    exact ⟨D.dat.mono h' h.1, D.dats.mono h' h.2⟩
end
def sp_rises : Spec := fun ds st P _ => ∃ x xs, ds = [x] ∧ (x = .tup xs ∨ x = .lst xs) ∧ Sortable xs ∧ P (.bl (rises xs)) st
theorem d_rises : Does Γ 3 1 b_rises sp_rises := by
  rintro ds st P ⟨x, xs, rfl, hx, ⟨hl, hd, ha⟩, hP⟩
  refine ⟨rfl, ?_⟩
  rcases hx with rfl | rfl
  all_goals
    simp [b_rises, denSs, denS, den, denB, denEs, denP, denI, denO, startE, slcR, wipeE]
    rw [cut1]
    refine comp_all pairLt (by rw [zipD_len]; omega) (fun d hm k hk => ?_) (by rw [rises_zip]; exact hP)
    obtain ⟨a, b, h1, h2, rfl⟩ := zip_mem hm
    have h2 := List.mem_of_mem_drop h2
    simp [asg, asgs, cmpR]
    exact ⟨D.dat.mono (by decide) (hd a h1), D.dat.mono (by decide) (hd b h2), ha a h1 b h2, hk⟩
def sp__law_are_rising : Spec := fun ds st P _ => ∃ x, ds = [x] ∧ OK x ∧ (∀ xs, x = .tup xs → Sortable xs) ∧ P (.bl (match x with | .tup xs => rises xs | _ => false)) st
theorem d__law_are_rising : Does Γ 3 1 b__law_are_rising sp__law_are_rising := by
  rintro ds st P ⟨x, rfl, hx, hs, hP⟩
  refine ⟨rfl, ?_⟩
  simp [b__law_are_rising, denSs, denS, den, denB, denEs, denP, denI, denO, startE, slcR, wipeE, isTys_ok hx, clsB]
  cases x <;> simp [ty1] at hP ⊢ <;> try exact hP
  rename_i xs
  obtain ⟨hl, hd, ha⟩ := hs xs rfl
  rw [cut1]
  refine comp_nil (K := fun z st => P (.bl z) st) (fun d => !pairLt d) (fun _ => .int 1) (by rw [zipD_len]; omega) (fun _ _ => rfl) (fun d hm k hk1 hk2 => ?_) ?_
  · obtain ⟨a, b, h1, h2, rfl⟩ := zip_mem hm
    have h2 := List.mem_of_mem_drop h2
    simp [asg, asgs, cmpR]
    refine ⟨D.dat.mono (by decide) (hd a h1), D.dat.mono (by decide) (hd b h2), ha a h1 b h2, ?_⟩
    simp [pairLt] at hk1 hk2
    cases q : a.lt b <;> simp_all
  · have e : (!(zipD xs (xs.drop 1)).any fun d => !pairLt d) = rises xs := by
      rw [← rises_zip, Bool.eq_iff_iff]; simp
    rw [e]; exact hP
/-! facts, pairs -/
theorem alike_strs {xs : List D} (h : ∀ x ∈ xs, ∃ s, x = .str s) : ∀ x ∈ xs, ∀ y ∈ xs, x.alike y = true := fun x hx y hy => by
  obtain ⟨s, rfl⟩ := h x hx
  obtain ⟨t, rfl⟩ := h y hy
  rfl
theorem sortable_strs {xs : List D} (hl : xs.length ≤ 1000) (hk : ∀ x ∈ xs, D.ok 1000 59 x = true) (h : ∀ x ∈ xs, ∃ s, x = .str s) : Sortable xs :=
  ⟨hl, fun x hx => by obtain ⟨s, rfl⟩ := h x hx; exact D.ok.dat (n := 0) (by decide) (by have := hk _ hx; unfold D.ok at this ⊢; exact this), alike_strs h⟩
theorem name_str {x : D} (h : isName x = true) : ∃ s, x = .str s := by
  cases x <;> simp [isName] at h
  exact ⟨_, rfl⟩
def areFacts (x : D) : Bool := match x with | .tup xs => decide (1 ≤ xs.length) && decide (xs.length ≤ 6) && xs.all isName && rises xs | _ => false
def sp_are_facts : Spec := fun ds st P _ => ∃ x, ds = [x] ∧ OK x ∧ P (.bl (areFacts x)) st
theorem d_are_facts (h1 : Γ.fn "is_name" = some sp_is_name) (h2 : Γ.fn "rises" = some sp_rises) : Does Γ 2 1 b_are_facts sp_are_facts := by
  rintro ds st P ⟨x, rfl, hx, hP⟩
  refine ⟨rfl, ?_⟩
  simp [b_are_facts, denSs, denS, den, denB, denEs, denP, denI, denO, startE, wipeE, isTys_ok hx, clsB, h1, h2]
  cases x <;> simp [ty1, areFacts] at hP ⊢ <;> try exact hP
  rename_i xs
  obtain ⟨m, hm, hl, hk⟩ := ok_tup hx
  cases hm
  refine .inl ⟨xs, rfl, ?_⟩
  simp only [ci_le]
  by_cases c1 : 1 ≤ (xs.length : Int)
  · have c1' : 1 ≤ xs.length := by omega
    by_cases c2 : (xs.length : Int) ≤ 6
    · have c2' : xs.length ≤ 6 := by omega
      simp [c1, c2, c1', c2', items1] at hP ⊢
      refine comp_all isName hl (fun d hd k hq => ?_) ?_
      · simp [asg, sp_is_name]
        exact ⟨ok_le (hk d hd), hq⟩
      · cases q : xs.all isName with
        | false => simpa [q] using hP
        | true =>
          simp [q] at hP ⊢
          exact ⟨_, xs, rfl, .inl rfl, sortable_strs hl hk fun x hx => name_str (List.all_eq_true.mp q x hx), by simpa using hP⟩
    · have c2' : ¬ xs.length ≤ 6 := by omega
      simp [c1, c2, c1', c2'] at hP ⊢
      exact hP
  · have c1' : ¬ 1 ≤ xs.length := by omega
    simp [c1, c1'] at hP ⊢
    exact hP
/-- some of the facts, rising -/
def isStr (d : D) : Bool := match d with | .str _ => true | _ => false
def hasD (fs : List D) (x : D) : Bool := fs.any fun f => f.eqv x
def areSome (fs : List D) (x : D) : Bool := match x with | .tup xs => xs.all (fun o => isStr o && hasD fs o) && rises xs | _ => false
def sp_are_some : Spec := fun ds st P _ => ∃ fs x, ds = [.tup fs, x] ∧ OK (.tup fs) ∧ OK x ∧ P (.bl (areSome fs x)) st
theorem ok_dats {xs : List D} (h : ∀ x ∈ xs, D.ok 1000 59 x = true) : D.dats 60 xs = true := dats_iff.mpr fun x hx => D.ok.dat (by decide) (h x hx)
theorem strs_of {fs xs : List D} (h : xs.all (fun o => isStr o && hasD fs o) = true) : ∀ x ∈ xs, ∃ s, x = .str s := fun x hx => by
  have := List.all_eq_true.mp h x hx
  rw [Bool.and_eq_true] at this
  cases x <;> simp [isStr] at this
  exact ⟨_, rfl⟩
theorem d_are_some (h1 : Γ.fn "rises" = some sp_rises) : Does Γ 3 2 b_are_some sp_are_some := by
  rintro ds st P ⟨fs, x, rfl, hf, hx, hP⟩
  refine ⟨rfl, ?_⟩
  obtain ⟨m, hm, hfl, hfk⟩ := ok_tup hf
  cases hm
  simp [b_are_some, denSs, denS, den, denB, denEs, denP, denI, denO, startE, wipeE, isTys_ok hx, clsB, h1]
  cases x <;> simp [ty1, areSome] at hP ⊢ <;> try exact hP
  rename_i xs
  obtain ⟨m, hm, hl, hk⟩ := ok_tup hx
  cases hm
  simp [items1]
  refine comp_all (fun o => isStr o && hasD fs o) hl (fun d hd k hq => ?_) ?_
  · have hd' := ok_le (hk d hd)
    simp [asg, isTys_ok hd', clsB]
    cases d <;> simp [ty1, isStr] at hq ⊢ <;> try exact hq
    refine .inl ⟨fs, rfl, ?_, ok_dats hfk, hq⟩
    exact D.ok.dat (n := 59) (by decide) (hk _ hd)
  · cases q : xs.all (fun o => isStr o && hasD fs o) with
    | false => simpa [q] using hP
    | true =>
      simp [q] at hP ⊢
      exact ⟨_, xs, rfl, .inl rfl, sortable_strs hl hk (strs_of q), by simpa using hP⟩
theorem d__law_are_some (h1 : Γ.fn "_law_are_rising" = some sp__law_are_rising) : Does Γ 3 2 b__law_are_some sp_are_some := by
  rintro ds st P ⟨fs, x, rfl, hf, hx, hP⟩
  refine ⟨rfl, ?_⟩
  obtain ⟨m, hm, hfl, hfk⟩ := ok_tup hf
  cases hm
  simp [b__law_are_some, denSs, denS, den, denB, denEs, denP, denI, denO, startE, wipeE, isTys_ok hx, clsB, h1]
  cases x <;> simp [ty1, areSome] at hP ⊢ <;> try exact hP
  rename_i xs
  obtain ⟨m, hm, hl, hk⟩ := ok_tup hx
  cases hm
  simp [items1]
  refine comp_ne (fun o => !(isStr o && hasD fs o)) id hl (fun d hd => D.ok.dat (n := 59) (by decide) (hk d hd)) (fun d hd k hq1 hq2 => ?_) ?_
  · have hd' := ok_le (hk d hd)
    simp [asg, isTys_ok hd', clsB]
    cases d <;> simp [ty1, isStr] at hq1 hq2 ⊢ <;> try exact hq1
    rename_i s
    refine .inl ⟨fs, rfl, ?_, ok_dats hfk, ?_⟩
    · exact D.ok.dat (n := 59) (by decide) (hk _ hd)
    · cases q : hasD fs (.str s) with
      | false =>
        have q' : (fs.any fun x => x.eqv (.str s)) = false := q
        rw [q']
        simpa using hq1 q
      | true =>
        have q' : (fs.any fun x => x.eqv (.str s)) = true := q
        rw [q']
        simpa using hq2 q
  · have e : (xs.any fun o => !(isStr o && hasD fs o)) = !xs.all fun o => isStr o && hasD fs o := List.not_all_eq_any_not.symm
    rw [e]
    cases q : xs.all (fun o => isStr o && hasD fs o) with
    | false => simpa [q] using hP
    | true =>
      simp [q] at hP ⊢
      exact ⟨_, rfl, hx, fun ys hy => by cases hy; exact sortable_strs hl hk (strs_of q), by simpa using hP⟩
/-- two such, apart -/
def tItems (d : D) : List D := match d with | .tup xs => xs | _ => []
def isPair (fs : List D) (x : D) : Bool := match x with | .tup [a, b] => areSome fs a && areSome fs b && !(tItems a).any (hasD (tItems b)) | _ => false
def sp_is_pair : Spec := fun ds st P _ => ∃ fs x, ds = [.tup fs, x] ∧ OK (.tup fs) ∧ OK x ∧ P (.bl (isPair fs x)) st
theorem some_tup {fs : List D} {x : D} (h : areSome fs x = true) : ∃ xs, x = .tup xs := by
  cases x <;> simp [areSome] at h
  exact ⟨_, rfl⟩
theorem at_nat {xs : List D} {i : Nat} {d : D} (h : xs[i]? = some d) : atI xs (i : Int) = some d := by
  have hl : i < xs.length := (List.getElem?_eq_some_iff.mp h).1
  unfold atI ixN
  rw [if_pos (by omega), if_pos (by omega)]
  simpa using h
theorem at0 {a : D} {r : List D} : atI (a :: r) 0 = some a := at_nat (i := 0) rfl
theorem at1 {a b : D} {r : List D} : atI (a :: b :: r) 1 = some b := at_nat (i := 1) rfl
theorem at2 {a b c : D} {r : List D} : atI (a :: b :: c :: r) 2 = some c := at_nat (i := 2) rfl
theorem at3 {a b c d : D} {r : List D} : atI (a :: b :: c :: d :: r) 3 = some d := at_nat (i := 3) rfl
theorem ix_tupk {st : Store} {xs : List D} {j : Int} {d : D} {k : D → Prop} (h : atI xs j = some d) (q : k d) : idxR st (.tup xs) (.int j) k := .inl ⟨xs, j, d, rfl, rfl, h, q⟩
theorem len_tup {st : Store} {xs : List D} {k : D → Prop} (q : k (.int xs.length)) : biR st .len (.tup xs) k := .inl ⟨xs, rfl, q⟩
theorem d_is_pair (h1 : Γ.fn "are_some" = some sp_are_some) : Does Γ 3 2 b_is_pair sp_is_pair := by
  rintro ds st P ⟨fs, x, rfl, hf, hx, hP⟩
  refine ⟨rfl, ?_⟩
  simp [b_is_pair, denSs, denS, den, denB, denEs, denP, denI, denO, startE, wipeE, isTys_ok hx, clsB, h1]
  cases x <;> simp [ty1, isPair] at hP ⊢ <;> try exact hP
  rename_i xs
  obtain ⟨m, hm, hl, hk⟩ := ok_tup hx
  cases hm
  refine len_tup ?_
  simp only [ci_ne]
  by_cases h2 : (xs.length : Int) = 2
  · obtain ⟨a, b, rfl⟩ : ∃ a b, xs = [a, b] := by
      rcases xs with _ | ⟨a, _ | ⟨b, _ | ⟨c, r⟩⟩⟩ <;> simp at h2
      · exact ⟨a, b, rfl⟩
      · omega
    simp [items1]
    refine comp_all (areSome fs) hl (fun d hd k hq => ?_) ?_
    · simp [asg]
      exact ⟨fs, d, rfl, hf, ok_le (hk d hd), hq⟩
    · cases qa : areSome fs a with
      | false => simpa [qa] using hP
      | true =>
        cases qb : areSome fs b with
        | false => simpa [qa, qb] using hP
        | true =>
          simp [qa, qb] at hP ⊢
          obtain ⟨as, rfl⟩ := some_tup qa
          obtain ⟨bs, rfl⟩ := some_tup qb
          obtain ⟨m, hm, hal, hak⟩ := ok_tup (hk _ List.mem_cons_self)
          cases hm
          obtain ⟨m, hm, hbl, hbk⟩ := ok_tup (hk _ (List.mem_cons_of_mem _ List.mem_cons_self))
          cases hm
          refine ix_tupk at0 ?_
          refine comp_any (hasD bs) hal (fun d hd k hq => ?_) ?_
          · simp [asg]
            refine ix_tupk at1 ?_
            exact .inl ⟨bs, rfl, D.ok.dat (n := 58) (by decide) (hak d hd), dats_iff.mpr fun y hy => D.ok.dat (n := 58) (by decide) (hbk y hy), hq⟩
          · cases q : as.any (hasD bs) <;> simp only [tItems, q] at hP ⊢ <;> simpa using hP
  · simp [h2] at hP ⊢
    rcases xs with _ | ⟨a, _ | ⟨b, _ | ⟨c, r⟩⟩⟩ <;> simp at h2 <;> simpa using hP
theorem d__law_is_pair (h1 : Γ.fn "_law_are_some" = some sp_are_some) : Does Γ 3 2 b__law_is_pair sp_is_pair := by
  rintro ds st P ⟨fs, x, rfl, hf, hx, hP⟩
  refine ⟨rfl, ?_⟩
  simp [b__law_is_pair, denSs, denS, den, denB, denEs, denP, denI, denO, startE, wipeE, isTys_ok hx, clsB, h1]
  cases x <;> simp [ty1, isPair] at hP ⊢ <;> try exact hP
  rename_i xs
  obtain ⟨m, hm, hl, hk⟩ := ok_tup hx
  cases hm
  refine len_tup ?_
  simp only [ci_ne]
  by_cases h2 : (xs.length : Int) = 2
  · obtain ⟨a, b, rfl⟩ : ∃ a b, xs = [a, b] := by
      rcases xs with _ | ⟨a, _ | ⟨b, _ | ⟨c, r⟩⟩⟩ <;> simp at h2
      · exact ⟨a, b, rfl⟩
      · omega
    simp
    refine ix_tupk at0 ?_
    refine ⟨fs, a, rfl, hf, ok_le (hk _ List.mem_cons_self), ?_⟩
    cases qa : areSome fs a with
    | false => simpa [qa] using hP
    | true =>
      simp [qa] at hP ⊢
      refine ix_tupk at1 ?_
      refine ⟨fs, b, rfl, hf, ok_le (hk _ (List.mem_cons_of_mem _ List.mem_cons_self)), ?_⟩
      cases qb : areSome fs b with
      | false => simpa [qa, qb] using hP
      | true =>
        simp [qa, qb] at hP ⊢
        obtain ⟨as, rfl⟩ := some_tup qa
        obtain ⟨bs, rfl⟩ := some_tup qb
        obtain ⟨m, hm, hal, hak⟩ := ok_tup (hk _ List.mem_cons_self)
        cases hm
        obtain ⟨m, hm, hbl, hbk⟩ := ok_tup (hk _ (List.mem_cons_of_mem _ List.mem_cons_self))
        cases hm
        refine ix_tupk at0 ?_
        simp [items1]
        refine comp_nil (K := fun z st => P (.bl z) st) (hasD bs) id hal (fun d hd => D.ok.dat (n := 58) (by decide) (hak d hd)) (fun d hd k hk1 hk2 => ?_) (by simpa [tItems] using hP)
        simp [asg]
        refine ix_tupk at1 ?_
        refine .inl ⟨bs, rfl, D.ok.dat (n := 58) (by decide) (hak d hd), dats_iff.mpr fun y hy => D.ok.dat (n := 58) (by decide) (hbk y hy), ?_⟩
        cases q : hasD bs d with
        | false =>
          have q' : (bs.any fun x => x.eqv d) = false := q
          rw [q']
          simpa using hk2 q
        | true =>
          have q' : (bs.any fun x => x.eqv d) = true := q
          rw [q']
          simpa using hk1 q
  · simp [h2] at hP ⊢
    rcases xs with _ | ⟨a, _ | ⟨b, _ | ⟨c, r⟩⟩⟩ <;> simp at h2 <;> simpa using hP
/-! deeds, meddlers, worlds -/
def isPairs (fs : List D) (x : D) : Bool := match x with | .tup cs => decide (1 ≤ cs.length) && decide (cs.length ≤ 3) && cs.all (isPair fs) | _ => false
def isDeed (fs : List D) (x : D) : Bool := match x with | .tup [n, c, q, chs] => isName n && isBetween c 1 1000 && isPair fs q && isPairs fs chs | _ => false
def isMeddler (fs : List D) (x : D) : Bool := match x with | .tup [n, c, q] => isName n && isPair fs c && isPair fs q | _ => false
def sp_is_deed : Spec := fun ds st P _ => ∃ fs x, ds = [.tup fs, x] ∧ OK (.tup fs) ∧ OK x ∧ P (.bl (isDeed fs x)) st
def sp_is_meddler : Spec := fun ds st P _ => ∃ fs x, ds = [.tup fs, x] ∧ OK (.tup fs) ∧ OK x ∧ P (.bl (isMeddler fs x)) st
theorem lenI {xs : List D} {k : Nat} : ((xs.length : Int) = k) ↔ xs.length = k := by omega
theorem d_is_deed (h1 : Γ.fn "is_name" = some sp_is_name) (h2 : Γ.fn "is_between" = some sp_is_between) (h3 : Γ.fn "is_pair" = some sp_is_pair) : Does Γ 3 2 b_is_deed sp_is_deed := by
  rintro ds st P ⟨fs, x, rfl, hf, hx, hP⟩
  refine ⟨rfl, ?_⟩
  simp [b_is_deed, denSs, denS, den, denB, denEs, denP, denI, denO, startE, wipeE, isTys_ok hx, clsB, h1, h2, h3]
  cases x <;> simp [ty1, isDeed] at hP ⊢ <;> try exact hP
  rename_i xs
  obtain ⟨m, hm, hl, hk⟩ := ok_tup hx
  cases hm
  refine len_tup ?_
  simp only [ci_ne]
  by_cases h4 : (xs.length : Int) = 4
  · obtain ⟨n, c, q, chs, rfl⟩ : ∃ a b c d, xs = [a, b, c, d] := by
      rcases xs with _ | ⟨a, _ | ⟨b, _ | ⟨c, _ | ⟨d, _ | ⟨e, r⟩⟩⟩⟩⟩ <;> simp at h4
      · exact ⟨a, b, c, d, rfl⟩
      · omega
    have kn := ok_le (hk n (by simp))
    have kc := ok_le (hk c (by simp))
    have kq := ok_le (hk q (by simp))
    have kk := ok_le (hk chs (by simp))
    simp
    refine ix_tupk at0 ⟨n, rfl, kn, ?_⟩
    cases qn : isName n with
    | false => simpa [qn] using hP
    | true =>
      simp [qn] at hP ⊢
      refine ix_tupk at1 ⟨c, 1, 1000, rfl, kc, ?_⟩
      cases qc : isBetween c 1 1000 with
      | false => simpa [qc] using hP
      | true =>
        simp [qc] at hP ⊢
        refine ix_tupk at2 ⟨fs, q, rfl, hf, kq, ?_⟩
        cases qq : isPair fs q with
        | false => simpa [qq] using hP
        | true =>
          simp [qq] at hP ⊢
          refine ix_tupk at3 ?_
          rw [isTys_ok kk (by rfl)]
          cases chs <;> simp [ty1, isPairs] at hP ⊢ <;> try exact hP
          rename_i cs
          obtain ⟨m, hm, hcl, hck⟩ := ok_tup (hk (.tup cs) (by simp))
          cases hm
          refine ix_tupk at3 ?_
          refine len_tup ?_
          simp only [ci_le]
          by_cases c1 : 1 ≤ (cs.length : Int)
          · have c1' : 1 ≤ cs.length := by omega
            by_cases c2 : (cs.length : Int) ≤ 3
            · have c2' : cs.length ≤ 3 := by omega
              simp [c1, c2, c1', c2', items1] at hP ⊢
              refine ix_tupk at3 ?_
              refine comp_all (isPair fs) hcl (fun d hd k hq => ?_) (by simpa using hP)
              simp [asg]
              exact ⟨fs, d, rfl, hf, ok_le (hck d hd), hq⟩
            · have c2' : ¬ cs.length ≤ 3 := by omega
              simp [c1, c2, c1', c2'] at hP ⊢
              exact hP
          · have c1' : ¬ 1 ≤ cs.length := by omega
            simp [c1, c1'] at hP ⊢
            exact hP
  · simp [h4] at hP ⊢
    rcases xs with _ | ⟨a, _ | ⟨b, _ | ⟨c, _ | ⟨d, _ | ⟨e, r⟩⟩⟩⟩⟩ <;> simp at h4 <;> simpa using hP
theorem three {xs : List D} (h : (xs.length : Int) = 3) : ∃ a b c, xs = [a, b, c] := by
  rcases xs with _ | ⟨a, _ | ⟨b, _ | ⟨c, _ | ⟨d, r⟩⟩⟩⟩ <;> simp at h
  · exact ⟨a, b, c, rfl⟩
  · omega
theorem d_is_meddler (h1 : Γ.fn "is_name" = some sp_is_name) (h3 : Γ.fn "is_pair" = some sp_is_pair) : Does Γ 2 2 b_is_meddler sp_is_meddler := by
  rintro ds st P ⟨fs, x, rfl, hf, hx, hP⟩
  refine ⟨rfl, ?_⟩
  simp [b_is_meddler, denSs, denS, den, denB, denEs, denP, denI, denO, startE, wipeE, isTys_ok hx, clsB, h1, h3]
  cases x <;> simp [ty1, isMeddler] at hP ⊢ <;> try exact hP
  rename_i xs
  obtain ⟨m, hm, hl, hk⟩ := ok_tup hx
  cases hm
  refine len_tup ?_
  simp only [ci_ne]
  by_cases h4 : (xs.length : Int) = 3
  · obtain ⟨n, c, q, rfl⟩ := three h4
    have kn := ok_le (hk n (by simp))
    have kc := ok_le (hk c (by simp))
    have kq := ok_le (hk q (by simp))
    simp
    refine ix_tupk at0 ⟨n, rfl, kn, ?_⟩
    cases qn : isName n with
    | false => simpa [qn] using hP
    | true =>
      simp [qn] at hP ⊢
      refine ix_tupk at1 ⟨fs, c, rfl, hf, kc, ?_⟩
      cases qc : isPair fs c with
      | false => simpa [qc] using hP
      | true =>
        simp [qc] at hP ⊢
        exact ix_tupk at2 ⟨fs, q, rfl, hf, kq, hP⟩
  · simp [h4] at hP ⊢
    rcases xs with _ | ⟨a, _ | ⟨b, _ | ⟨c, _ | ⟨d, r⟩⟩⟩⟩ <;> simp at h4 <;> simpa using hP
def first (d : D) : D := match d with | .tup (a :: _) => a | _ => .non
/-- each begins with a text -/
def Headed (xs : List D) : Prop := ∀ y ∈ xs, ∃ s r, y = .tup (.str s :: r)
theorem first_sort {xs : List D} (hl : xs.length ≤ 1000) (hk : ∀ x ∈ xs, D.ok 1000 59 x = true) (h : Headed xs) : Sortable (xs.map first) := by
  refine ⟨by simpa using hl, fun x hx => ?_, alike_strs fun x hx => ?_⟩
  · obtain ⟨y, hy, rfl⟩ := List.mem_map.mp hx
    obtain ⟨s, r, rfl⟩ := h y hy
    obtain ⟨m, hm, _, hh⟩ := ok_tup (hk _ hy)
    cases hm
    exact D.ok.dat (n := 58) (by decide) (hh _ List.mem_cons_self)
  · obtain ⟨y, hy, rfl⟩ := List.mem_map.mp hx
    obtain ⟨s, r, rfl⟩ := h y hy
    exact ⟨s, rfl⟩
def areNamed (x : D) (most : Int) : Bool := match x with | .tup xs => decide ((xs.length : Int) ≤ most) && rises (xs.map first) | _ => false
def sp_are_named : Spec := fun ds st P _ => ∃ x most, ds = [x, .int most] ∧ OK x ∧ (∀ xs, x = .tup xs → Headed xs) ∧ P (.bl (areNamed x most)) st
theorem d_are_named (h1 : Γ.fn "rises" = some sp_rises) : Does Γ 3 2 b_are_named sp_are_named := by
  rintro ds st P ⟨x, most, rfl, hx, hh, hP⟩
  refine ⟨rfl, ?_⟩
  simp [b_are_named, denSs, denS, den, denB, denEs, denP, denI, denO, startE, wipeE, isTys_ok hx, clsB, h1]
  cases x <;> simp [ty1, areNamed] at hP ⊢ <;> try exact hP
  rename_i xs
  obtain ⟨m, hm, hl, hk⟩ := ok_tup hx
  cases hm
  have hh := hh xs rfl
  refine len_tup ?_
  simp only [ci_le]
  by_cases h2 : (xs.length : Int) ≤ most
  · simp [h2, items1] at hP ⊢
    refine turns_map (g := first) xs [] (by simpa using sz1000 hl) (fun d hd k hq => ?_) ?_
    · obtain ⟨s, r, rfl⟩ := hh d hd
      simp [asg]
      exact ix_tupk at0 hq
    · exact ⟨_, _, rfl, .inr rfl, by simpa using first_sort hl hk hh, by simpa using hP⟩
  · simp [h2] at hP ⊢
    exact hP
def isTup (d : D) : Bool := match d with | .tup _ => true | _ => false
def isWorld (x : D) : Bool := match x with
  | .tup [f, d, m] => areFacts f && (isTup d && (tItems d).all (isDeed (tItems f))) && (isTup m && (tItems m).all (isMeddler (tItems f))) && areNamed d 8 && areNamed m 4
  | _ => false
def sp_is_world : Spec := fun ds st P _ => ∃ x, ds = [x] ∧ OK x ∧ P (.bl (isWorld x)) st
theorem deed_head {fs : List D} {d : D} (h : isDeed fs d = true) : ∃ s r, d = .tup (.str s :: r) := by
  unfold isDeed at h
  split at h
  · simp only [Bool.and_eq_true] at h
    obtain ⟨s, rfl⟩ := name_str h.1.1.1
    exact ⟨s, _, rfl⟩
  · cases h
theorem meddler_head {fs : List D} {d : D} (h : isMeddler fs d = true) : ∃ s r, d = .tup (.str s :: r) := by
  unfold isMeddler at h
  split at h
  · simp only [Bool.and_eq_true] at h
    obtain ⟨s, rfl⟩ := name_str h.1.1
    exact ⟨s, _, rfl⟩
  · cases h
theorem facts_tup {x : D} (h : areFacts x = true) : ∃ xs, x = .tup xs := by
  cases x <;> simp [areFacts] at h
  exact ⟨_, rfl⟩
theorem d_is_world (h1 : Γ.fn "are_facts" = some sp_are_facts) (h2 : Γ.fn "is_deed" = some sp_is_deed) (h3 : Γ.fn "is_meddler" = some sp_is_meddler) (h4 : Γ.fn "are_named" = some sp_are_named) : Does Γ 6 1 b_is_world sp_is_world := by
  rintro ds st P ⟨x, rfl, hx, hP⟩
  refine ⟨rfl, ?_⟩
  simp [b_is_world, denSs, denS, den, denB, denEs, denP, denI, denO, startE, wipeE, isTys_ok hx, clsB, h1, h2, h3, h4]
  cases x <;> simp [ty1, isWorld] at hP ⊢ <;> try exact hP
  rename_i xs
  obtain ⟨m, hm, hl, hk⟩ := ok_tup hx
  cases hm
  refine len_tup ?_
  simp only [ci_ne]
  by_cases h5 : (xs.length : Int) = 3
  · obtain ⟨f, d, m, rfl⟩ := three h5
    have kf := ok_le (hk f (by simp))
    have kd := ok_le (hk d (by simp))
    have km := ok_le (hk m (by simp))
    simp
    refine ix_tupk at0 ⟨f, rfl, kf, ?_⟩
    cases qf : areFacts f with
    | false => simpa [qf] using hP
    | true =>
      obtain ⟨fs, rfl⟩ := facts_tup qf
      simp [qf, asg, asgs] at hP ⊢
      rw [isTys_ok kd (by rfl)]
      cases d <;> simp [ty1, isTup] at hP ⊢ <;> try exact hP
      rename_i xd
      obtain ⟨_, hm, hdl, hdk⟩ := ok_tup (hk (.tup xd) (by simp))
      cases hm
      simp [items1, tItems] at hP ⊢
      refine comp_all (isDeed fs) hdl (fun d hd k hq => ?_) ?_
      · try simp [asg]
        exact ⟨fs, d, rfl, kf, ok_le (hdk d hd), hq⟩
      · cases qd : xd.all (isDeed fs) with
        | false => simpa [qd] using hP
        | true =>
          simp [qd] at hP ⊢
          rw [isTys_ok km (by rfl)]
          cases m <;> simp [ty1] at hP ⊢ <;> try exact hP
          rename_i xm
          obtain ⟨_, hm, hml, hmk⟩ := ok_tup (hk (.tup xm) (by simp))
          cases hm
          refine comp_all (isMeddler fs) hml (fun d hd k hq => ?_) ?_
          · try simp [asg]
            exact ⟨fs, d, rfl, kf, ok_le (hmk d hd), hq⟩
          · cases qm : xm.all (isMeddler fs) with
            | false => simpa [qm] using hP
            | true =>
              simp [qm] at hP ⊢
              refine ⟨_, _, rfl, kd, fun ys e y hy => ?_, ?_⟩
              · cases e; exact deed_head (List.all_eq_true.mp qd y hy)
              · cases qn : areNamed (.tup xd) 8 with
                | false => simpa [qn] using hP
                | true =>
                  simp [qn] at hP ⊢
                  refine ⟨_, _, rfl, km, fun ys e y hy => ?_, hP⟩
                  cases e; exact meddler_head (List.all_eq_true.mp qm y hy)
  · simp [h5] at hP ⊢
    rcases xs with _ | ⟨a, _ | ⟨b, _ | ⟨c, _ | ⟨d, r⟩⟩⟩⟩ <;> simp at h5 <;> simpa using hP
/-! states, conditions, places; the law's own judging -/
theorem areSome_dup {fs : List D} {x : D} : True := trivial
def wFacts (w : D) : List D := match w with | .tup (f :: _) => tItems f | _ => []
/-- a world as far as these look -/
def HasFacts (w : D) : Prop := ∃ fs r, w = .tup (.tup fs :: r) ∧ OK (.tup fs)
def sp_is_state : Spec := fun ds st P _ => ∃ w x, ds = [w, x] ∧ HasFacts w ∧ OK x ∧ P (.bl (areSome (wFacts w) x)) st
def sp_is_condition : Spec := fun ds st P _ => ∃ w x, ds = [w, x] ∧ HasFacts w ∧ OK x ∧ P (.bl (isPair (wFacts w) x)) st
theorem d_is_state (h1 : Γ.fn "are_some" = some sp_are_some) : Does Γ 2 2 b_is_state sp_is_state := by
  rintro ds st P ⟨w, x, rfl, ⟨fs, r, rfl, hf⟩, hx, hP⟩
  refine ⟨rfl, ?_⟩
  simp [b_is_state, denSs, denS, den, denEs, startE, h1]
  exact ix_tupk at0 ⟨fs, x, rfl, hf, hx, hP⟩
theorem d_is_condition (h1 : Γ.fn "is_pair" = some sp_is_pair) : Does Γ 2 2 b_is_condition sp_is_condition := by
  rintro ds st P ⟨w, x, rfl, ⟨fs, r, rfl, hf⟩, hx, hP⟩
  refine ⟨rfl, ?_⟩
  simp [b_is_condition, denSs, denS, den, denEs, startE, h1]
  exact ix_tupk at0 ⟨fs, x, rfl, hf, hx, hP⟩
def isPlace (fs : List D) (x : D) : Bool := match x with | .tup [s, a, b] => areSome fs s && isBetween a 0 3 && isBetween b 0 3 | _ => false
def sp_is_place : Spec := fun ds st P _ => ∃ w x, ds = [w, x] ∧ HasFacts w ∧ OK x ∧ P (.bl (isPlace (wFacts w) x)) st
theorem d_is_place (hg : Γ.gl "MOST" = some (.int 3)) (h1 : Γ.fn "is_state" = some sp_is_state) (h2 : Γ.fn "is_between" = some sp_is_between) : Does Γ 2 2 b_is_place sp_is_place := by
  rintro ds st P ⟨w, x, rfl, hw, hx, hP⟩
  refine ⟨rfl, ?_⟩
  simp [b_is_place, denSs, denS, den, denB, denEs, startE, isTys_ok hx, clsB, h1, h2, hg]
  cases x <;> simp [ty1, isPlace] at hP ⊢ <;> try exact hP
  rename_i xs
  obtain ⟨m, hm, hl, hk⟩ := ok_tup hx
  cases hm
  refine len_tup ?_
  simp only [ci_ne]
  by_cases h5 : (xs.length : Int) = 3
  · obtain ⟨s, a, b, rfl⟩ := three h5
    simp
    refine ix_tupk at0 ⟨w, s, rfl, hw, ok_le (hk s (by simp)), ?_⟩
    cases qs : areSome (wFacts w) s with
    | false => simpa [qs] using hP
    | true =>
      simp [qs] at hP ⊢
      refine ix_tupk at1 ⟨a, 0, 3, rfl, ok_le (hk a (by simp)), ?_⟩
      cases qa : isBetween a 0 3 with
      | false => simpa [qa] using hP
      | true =>
        simp [qa] at hP ⊢
        exact ix_tupk at2 ⟨b, 0, 3, rfl, ok_le (hk b (by simp)), hP⟩
  · simp [h5] at hP ⊢
    rcases xs with _ | ⟨a, _ | ⟨b, _ | ⟨c, _ | ⟨d, r⟩⟩⟩⟩ <;> simp at h5 <;> simpa using hP
theorem d__law_is_place (h1 : Γ.fn "_law_are_some" = some sp_are_some) (h2 : Γ.fn "_law_is_whole" = some sp_is_between) : Does Γ 2 2 b__law_is_place sp_is_place := by
  rintro ds st P ⟨w, x, rfl, ⟨fs, r, rfl, hf⟩, hx, hP⟩
  refine ⟨rfl, ?_⟩
  simp [b__law_is_place, denSs, denS, den, denB, denEs, startE, isTys_ok hx, clsB, h1, h2]
  cases x <;> simp [ty1, isPlace] at hP ⊢ <;> try exact hP
  rename_i xs
  obtain ⟨m, hm, hl, hk⟩ := ok_tup hx
  cases hm
  refine len_tup ?_
  simp only [ci_ne]
  by_cases h5 : (xs.length : Int) = 3
  · obtain ⟨s, a, b, rfl⟩ := three h5
    simp
    refine ix_tupk at0 (ix_tupk at0 ⟨fs, s, rfl, hf, ok_le (hk s (by simp)), ?_⟩)
    cases qs : areSome fs s with
    | false => simpa [qs, wFacts, tItems] using hP
    | true =>
      simp [qs, wFacts, tItems] at hP ⊢
      refine ix_tupk at1 ⟨a, 0, 3, rfl, ok_le (hk a (by simp)), ?_⟩
      cases qa : isBetween a 0 3 with
      | false => simpa [qa] using hP
      | true =>
        simp [qa] at hP ⊢
        exact ix_tupk at2 ⟨b, 0, 3, rfl, ok_le (hk b (by simp)), hP⟩
  · simp [h5] at hP ⊢
    rcases xs with _ | ⟨a, _ | ⟨b, _ | ⟨c, _ | ⟨d, r⟩⟩⟩⟩ <;> simp at h5 <;> simpa using hP
def sp__law_truly : Spec := fun ds st P _ => ∃ a b : Bool, ds = [.bl a, .bl b] ∧ P (.bl (a == b)) st
theorem d__law_truly : Does Γ 2 2 b__law_truly sp__law_truly := by
  rintro ds st P ⟨a, b, rfl, hP⟩
  refine ⟨rfl, ?_⟩
  simp [b__law_truly, denSs, denS, den, denB, startE, rsv, isTys, isTy, cmpR, D.dat, D.eqv]
  simpa using hP
/-- the deeds, or the meddlers, as the law judges them -/
def okD (fs : List D) (long : Int) (d : D) : Bool := if long = 4 then isDeed fs d else isMeddler fs d
def areDeeds (fs : List D) (x : D) (most long : Int) : Bool := match x with | .tup xs => decide ((xs.length : Int) ≤ most) && xs.all (okD fs long) && rises (xs.map first) | _ => false
def sp__law_are_deeds : Spec := fun ds st P _ => ∃ fs x most long, ds = [.tup fs, x, .int most, .int long] ∧ OK (.tup fs) ∧ OK x ∧ (long = 3 ∨ long = 4) ∧ P (.bl (areDeeds fs x most long)) st
theorem empty_lt {s : Str} (h : 1 ≤ s.length) : (D.str "").lt (.str s) = true := by
  simp only [D.lt, decide_eq_true_eq]
  obtain ⟨⟨l⟩⟩ := s
  cases l with
  | nil => exact absurd h (by decide)
  | cons c l => exact List.Lex.nil
theorem rises_empty {fs : List D} {long : Int} (hl : long = 3 ∨ long = 4) : ∀ {xs : List D}, xs.all (okD fs long) = true → rises (.str "" :: xs.map first) = rises (xs.map first)
  | [], _ => rfl
  | x :: xs, h => by
    simp only [List.all_cons, Bool.and_eq_true] at h
    have : ∃ s r, x = .tup (.str s :: r) ∧ 1 ≤ s.length := by
      have h := h.1
      unfold okD at h
      split at h
      · unfold isDeed at h
        split at h
        · simp only [Bool.and_eq_true] at h
          obtain ⟨s, rfl⟩ := name_str h.1.1.1
          have h := h.1.1.1
          simp [isName] at h
          exact ⟨s, _, rfl, by omega⟩
        · cases h
      · unfold isMeddler at h
        split at h
        · simp only [Bool.and_eq_true] at h
          obtain ⟨s, rfl⟩ := name_str h.1.1
          have h := h.1.1
          simp [isName] at h
          exact ⟨s, _, rfl, by omega⟩
        · cases h
    obtain ⟨s, r, rfl, hs⟩ := this
    show ((D.str "").lt (.str s) && rises (.str s :: xs.map first)) = rises (.str s :: xs.map first)
    rw [empty_lt hs, Bool.true_and]
end
end G
/-! What the law's own defs give. -/
namespace G
open PySem PySem.Spec PyProof.Rows L2
/-- what an expression gives, nothing changed -/
abbrev Ev (Γ : Ctx) (ρ : Env) (st : Store) (e : E) (d : D) : Prop := ∀ Q : Post, Q d st → den Γ X0 e ρ st Q
section
variable {Γ : Ctx} {ρ : Env} {st : Store}
theorem ife_ev {c : E} {a b : Ss} {K : Kn} (t : Bool) (hc : Ev Γ ρ st c (.bl t)) (h : if t = true then denSs Γ X0 a K ρ st else denSs Γ X0 b K ρ st) : denS Γ X0 (.ife c a b) K ρ st := by
  rw [denS]
  exact hc _ ⟨t, rfl, h⟩
theorem cons_ife {c : E} {a b ss : Ss} {K : Kn} (t : Bool) (hc : Ev Γ ρ st c (.bl t)) (h : if t = true then denSs Γ X0 a { K with nx := fun ρ1 st1 => denSs Γ X0 ss K ρ1 st1 } ρ st else denSs Γ X0 b { K with nx := fun ρ1 st1 => denSs Γ X0 ss K ρ1 st1 } ρ st) : denSs Γ X0 (.cons (.ife c a b) ss) K ρ st := by
  rw [denSs]
  exact ife_ev t hc h
theorem cons_asg {i : Nat} {e : E} {ss : Ss} {K : Kn} (d : D) (he : Ev Γ ρ st e d) (h : denSs Γ X0 ss K (ρ.set i (some d)) st) : denSs Γ X0 (.cons (.asg (.var i) e) ss) K ρ st := by
  rw [denSs, denS]
  exact he _ (by simpa [asg] using h)
theorem cons_ret {e : E} {ss : Ss} {K : Kn} (d : D) (he : Ev Γ ρ st e d) (h : K.rt d st) : denSs Γ X0 (.cons (.ret e) ss) K ρ st := by
  rw [denSs, denS]
  exact he _ h
def okHead (long : Int) (last : Str) (y : D) : Bool := match y with | .tup (n :: r) => decide (((n :: r).length : Int) = long) && isName n && (D.str last).lt n | _ => false
theorem okd_split {fs : List D} {long : Int} (hl : long = 3 ∨ long = 4) (y : D) (last : Str) : (okD fs long y && (D.str last).lt (first y)) = (okHead long last y && okD fs long y) := by
  rcases hl with rfl | rfl
  · cases y <;> try rfl
    rename_i xs
    rcases xs with _ | ⟨a, _ | ⟨b, _ | ⟨c, _ | ⟨d, _ | ⟨e, r⟩⟩⟩⟩⟩ <;> try rfl
    all_goals simp [okD, isMeddler, first, okHead]
    all_goals try omega
    cases isName a <;> cases (D.str last).lt a <;> simp
  · cases y <;> try rfl
    rename_i xs
    rcases xs with _ | ⟨a, _ | ⟨b, _ | ⟨c, _ | ⟨d, _ | ⟨e, r⟩⟩⟩⟩⟩ <;> try rfl
    all_goals simp [okD, isDeed, first, okHead]
    all_goals try omega
    cases isName a <;> cases (D.str last).lt a <;> simp
theorem test1 (h1 : Γ.fn "_law_is_name" = some sp_is_name) {a b c o : Option D} {long : Int} {last : Str} {y : D} (hlong : long = 3 ∨ long = 4) (hs : PyData.strOk last = true) (hy : D.ok 1000 59 y = true) :
    Ev Γ [a, b, c, some (.int long), some (.str last), some y, o] st
      (.bop false (.cons (.not (.isi (.var 5) [.tuple])) (.cons (.cmp .NotEq (.bi .len (.var 5)) (.var 3)) (.cons (.not (.call "_law_is_name" (.cons (.idx (.var 5) (.int 0)) .nil))) (.cons (.not (.cmp .Lt (.var 4) (.idx (.var 5) (.int 0)))) .nil)))))
      (.bl (!okHead long last y)) := by
  intro Q hQ
  have ky := ok_le hy
  simp [den, denB, denEs, isTys_ok ky, clsB, h1]
  cases y <;> simp [ty1] at hQ ⊢ <;> try exact hQ
  rename_i xs
  obtain ⟨m, hm, hl, hk⟩ := ok_tup hy
  cases hm
  refine len_tup ?_
  rw [ci_ne]
  by_cases hlen : (xs.length : Int) = long
  · cases xs with
    | nil =>
      simp at hlen
      omega
    | cons n r =>
      have kn := ok_le (hk n List.mem_cons_self)
      have e : okHead long last (.tup (n :: r)) = (isName n && (D.str last).lt n) := by simp only [okHead, hlen, decide_true, Bool.true_and]
      rw [e] at hQ
      simp only [hlen, decide_true, Bool.not_true, Bool.false_eq_true, if_false]
      refine ix_tupk at0 ⟨n, rfl, kn, ?_⟩
      cases qn : isName n with
      | false => simpa [qn] using hQ
      | true =>
        obtain ⟨s, rfl⟩ := name_str qn
        rw [qn, Bool.true_and] at hQ
        simp
        refine ix_tupk at0 ?_
        refine ⟨by unfold D.dat; exact hs, D.ok.dat (n := 58) (by decide) (hk _ List.mem_cons_self), rfl, ?_⟩
        exact hQ
  · have e : okHead long last (.tup xs) = false := by
      cases xs with
      | nil => rfl
      | cons n r => simp only [okHead, hlen, decide_false, Bool.false_and]
    rw [e] at hQ
    simpa [hlen] using hQ
/-- the rest of such a deed, its head looked at -/
def okRest (fs : List D) (long : Int) (y : D) : Bool := match y with
  | .tup [_, c, q] => decide (long = 3) && isPair fs c && isPair fs q
  | .tup [_, c, q, chs] => decide (long = 4) && isBetween c 1 1000 && isPair fs q && isPairs fs chs
  | _ => false
theorem head_rest {fs : List D} {long : Int} {last : Str} {y : D} (hl : long = 3 ∨ long = 4) (h : okHead long last y = true) : okD fs long y = okRest fs long y := by
  unfold okHead at h
  split at h
  · rename_i n r
    simp only [Bool.and_eq_true, decide_eq_true_eq] at h
    rcases hl with rfl | rfl
    · rcases r with _ | ⟨b, _ | ⟨c, _ | ⟨d, r⟩⟩⟩ <;> simp at h <;> try omega
      simp [okD, isMeddler, okRest, h.1]
    · rcases r with _ | ⟨b, _ | ⟨c, _ | ⟨d, _ | ⟨e, r⟩⟩⟩⟩ <;> simp at h <;> try omega
      simp [okD, isDeed, okRest, h.1]
  · cases h
/-- a statement that may fall through: with this the next ones -/
theorem rest3 (h2 : Γ.fn "_law_is_pair" = some sp_is_pair) {fs : List D} {b c o6 : Option D} {last : Option D} {y : D} (hf : OK (.tup fs)) (hy : D.ok 1000 59 y = true) {last0 : Str} (hd : okHead 3 last0 y = true) :
    Ev Γ [some (.tup fs), b, c, some (.int 3), last, some y, o6] st
      (.bop true (.cons (.cmp .Eq (.var 3) (.int 3)) (.cons (.bop false (.cons (.not (.call "_law_is_pair" (.cons (.var 0) (.cons (.idx (.var 5) (.int 1)) .nil)))) (.cons (.not (.call "_law_is_pair" (.cons (.var 0) (.cons (.idx (.var 5) (.int 2)) .nil)))) .nil))) .nil)))
      (.bl (!okRest fs 3 y)) := by
  intro Q hQ
  unfold okHead at hd
  split at hd
  · rename_i n r
    simp only [Bool.and_eq_true, decide_eq_true_eq] at hd
    obtain ⟨n', c', q', e⟩ := three hd.1.1
    cases e
    obtain ⟨m, hm, hl, hk⟩ := ok_tup hy
    cases hm
    simp [den, denB, denEs, ci_eq, h2, okRest] at hQ ⊢
    refine ix_tupk at1 ⟨fs, c', rfl, hf, ok_le (hk c' (by simp)), ?_⟩
    cases qc : isPair fs c' with
    | false => simpa [qc] using hQ
    | true =>
      simp [qc] at hQ ⊢
      exact ix_tupk at2 ⟨fs, q', rfl, hf, ok_le (hk q' (by simp)), by cases q3 : isPair fs q' <;> simpa [q3] using hQ⟩
  · cases hd
theorem d__law_are_deeds (h1 : Γ.fn "_law_is_name" = some sp_is_name) (h2 : Γ.fn "_law_is_pair" = some sp_is_pair) (h3 : Γ.fn "_law_is_whole" = some sp_is_between) : Does Γ 7 4 b__law_are_deeds sp__law_are_deeds := by
  rintro ds st P ⟨fs, x, most, long, rfl, hf, hx, hlong, hP⟩
  refine ⟨rfl, ?_⟩
  unfold b__law_are_deeds
  have t0 : Ev Γ (startE 7 [.tup fs, x, .int most, .int long]) st (.bop false (.cons (.not (.isi (.var 1) [.tuple])) (.cons (.cmp .Gt (.bi .len (.var 1)) (.var 2)) .nil))) (.bl (match x with | .tup xs => decide (most < (xs.length : Int)) | _ => true)) := by
    intro Q hQ
    simp [den, denB, startE, isTys_ok hx, clsB]
    cases x <;> simp [ty1] at hQ ⊢ <;> try exact hQ
    exact len_tup hQ
  refine cons_ife _ t0 ?_
  cases x <;> try (simp [denSs, denS, den, areDeeds] at hP ⊢; exact hP)
  rename_i xs
  obtain ⟨m, hm, hl, hk⟩ := ok_tup hx
  cases hm
  simp only [areDeeds] at hP ⊢
  by_cases hc : most < (xs.length : Int)
  · have hc' : ¬ (xs.length : Int) ≤ most := by omega
    simp [hc, hc', denSs, denS, den] at hP ⊢
    exact hP
  · have hc' : (xs.length : Int) ≤ most := by omega
    simp only [hc, hc', decide_false, decide_true, Bool.false_eq_true, if_false, Bool.true_and] at hP ⊢
    rw [denSs]
    refine cons_asg (i := 4) (e := .str "") (.str "") (fun Q h => by rw [den]; exact h) ?_
    rw [denSs, denS]
    simp [denI, den, startE, items1]
    have hlet : PyData.strOk "" = true := by decide +kernel
    have hP : P (.bl (xs.all (okD fs long) && rises (.str "" :: xs.map first))) st := by
      cases q : xs.all (okD fs long) with
      | false => simpa [q] using hP
      | true => rw [rises_empty hlong q]; simpa [q] using hP
    have main : ∀ (ys : List D) (last : Str) (o5 o6 : Option D), PyData.strOk last = true → (∀ y ∈ ys, D.ok 1000 59 y = true) → P (.bl (ys.all (okD fs long) && rises (.str last :: ys.map first))) st →
        forL (Pt.var 5) (fun ρ st K => denSs Γ X0 b__law_are_deeds_1 K ρ st) { nx := fun ρ1 st1 => denSs Γ X0 (Ss.cons (S.ret (E.bl true)) Ss.nil) { nx := fun x st => P D.non st, rt := P } ρ1 st1, rt := P } ys
          [some (D.tup fs), some (D.tup xs), some (D.int most), some (D.int long), some (D.str last), o5, o6] st := by
      intro ys
      induction ys with
      | nil =>
        intro last o5 o6 hs hk hP
        simpa [forL, denSs, denS, den, rises] using hP
      | cons y ys ih =>
        intro last o5 o6 hs hk hP
        have hy := hk y List.mem_cons_self
        unfold forL
        simp only [asg, List.set]
        have split1 : ((y :: ys).all (okD fs long) && rises (.str last :: (y :: ys).map first)) = (okHead long last y && (okD fs long y && (ys.all (okD fs long) && rises (first y :: ys.map first)))) := by
          have e : rises (.str last :: (y :: ys).map first) = ((D.str last).lt (first y) && rises (first y :: ys.map first)) := rfl
          rw [e, List.all_cons]
          have := okd_split (fs := fs) hlong y last
          cases q1 : okD fs long y <;> cases q2 : (D.str last).lt (first y) <;> cases q3 : okHead long last y <;> simp [q1, q2, q3] at this ⊢
        rw [split1] at hP
        unfold b__law_are_deeds_1
        refine cons_ife _ (test1 h1 hlong hs hy) ?_
        cases qh : okHead long last y with
        | false => simpa [qh, denSs, denS, den] using hP
        | true =>
          simp only [qh, Bool.not_true, Bool.false_eq_true, if_false, Bool.true_and] at hP ⊢
          rw [head_rest hlong qh] at hP
          obtain ⟨s, r, rfl, hs2⟩ : ∃ s r, y = .tup (.str s :: r) ∧ PyData.strOk s = true := by
            unfold okHead at qh
            split at qh
            · simp only [Bool.and_eq_true] at qh
              obtain ⟨s, rfl⟩ := name_str qh.1.2
              obtain ⟨m, hm, _, hh⟩ := ok_tup hy
              cases hm
              exact ⟨s, _, rfl, (ok_str (hh _ List.mem_cons_self)).1⟩
            · cases qh
          rw [denSs]
          refine cons_asg (.str s) (fun Q h => by
            simp only [den]
            exact ix_tupk at0 h) ?_
          simp only [List.set]
          have ih' := fun h => ih s (some (.tup (.str s :: r))) o6 hs2 (fun z hz => hk z (List.mem_cons_of_mem _ hz)) h
          rcases hlong with rfl | rfl
          · refine cons_ife _ (rest3 h2 hf hy qh) ?_
            cases qr : okRest fs 3 (.tup (.str s :: r)) with
            | false => simpa [qr, denSs, denS, den] using hP
            | true =>
              simp only [qr, Bool.not_true, Bool.false_eq_true, if_false, Bool.true_and] at hP ⊢
              rw [denSs]
              refine cons_ife false (fun Q h => by simpa [den, ci_eq] using h) ?_
              simp only [Bool.false_eq_true, if_false, denSs]
              exact ih' hP
          · refine cons_ife false (fun Q h => by simpa [den, denB, ci_eq] using h) ?_
            simp only [Bool.false_eq_true, if_false]
            rw [denSs]
            refine cons_ife true (fun Q h => by simpa [den, ci_eq] using h) ?_
            simp only [if_true]
            unfold okHead at qh
            simp only [Bool.and_eq_true, decide_eq_true_eq] at qh
            obtain ⟨c', q', chs, e⟩ : ∃ a b c, r = [a, b, c] := three (by have := qh.1.1; simp at this; omega)
            subst e
            obtain ⟨m, hm, hl', hk'⟩ := ok_tup hy
            cases hm
            simp only [okRest, decide_true, Bool.true_and] at hP
            have kc := ok_le (hk' c' (by simp))
            have kq := ok_le (hk' q' (by simp))
            have kk := ok_le (hk' chs (by simp))
            refine cons_ife (!(isBetween c' 1 1000 && isPair fs q' && isTup chs)) (fun Q hQ => ?_) ?_
            · simp only [den, denB, denEs, h2, h3]
              refine ix_tupk at1 ⟨c', 1, 1000, rfl, kc, ?_⟩
              cases q1 : isBetween c' 1 1000 with
              | false => simpa [q1] using hQ
              | true =>
                simp [q1] at hQ ⊢
                refine ix_tupk at2 ⟨fs, q', rfl, hf, kq, ?_⟩
                cases q2 : isPair fs q' with
                | false => simpa [q2] using hQ
                | true =>
                  simp [q2] at hQ ⊢
                  refine ix_tupk at3 ?_
                  rw [isTys_ok kk (by rfl)]
                  cases chs <;> simp [ty1, isTup] at hQ ⊢ <;> exact hQ
            · cases q1 : (isBetween c' 1 1000 && isPair fs q' && isTup chs) with
              | false =>
                have : (isBetween c' 1 1000 && isPair fs q' && isPairs fs chs) = false := by
                  cases q2 : (isBetween c' 1 1000 && isPair fs q') with
                  | false => rfl
                  | true =>
                    rw [q2, Bool.true_and] at q1
                    cases chs <;> first | rfl | (simp [isTup] at q1; done)
                rw [this] at hP
                simpa [denSs, denS, den] using hP
              | true =>
                simp only [Bool.and_eq_true] at q1
                rw [q1.1.1, q1.1.2, Bool.true_and, Bool.true_and] at hP
                obtain ⟨_, qt⟩ := q1
                cases chs <;> try (cases qt; done)
                rename_i cs
                obtain ⟨m, hm, hcl, hck⟩ := ok_tup (hk' (.tup cs) (by simp))
                cases hm
                simp only [Bool.not_true, Bool.false_eq_true, if_false]
                rw [denSs]
                refine cons_ife (!(decide ((0 : Int) < cs.length) && decide ((cs.length : Int) < 4))) (fun Q hQ => ?_) ?_
                · simp only [den]
                  refine ix_tupk at3 (len_tup ?_)
                  simp only [ci_lt]
                  cases z1 : decide ((0 : Int) < cs.length) <;> cases z2 : decide ((cs.length : Int) < 4) <;> simp only [z1, z2] at hQ ⊢ <;> simpa using hQ
                · have ez : (decide ((0 : Int) < cs.length) && decide ((cs.length : Int) < 4)) = (decide (1 ≤ cs.length) && decide (cs.length ≤ 3)) := by
                    rw [Bool.eq_iff_iff]; simp; omega
                  simp only [isPairs] at hP
                  rw [ez]
                  cases qz : (decide (1 ≤ cs.length) && decide (cs.length ≤ 3)) with
                  | false =>
                    rw [qz] at hP
                    simpa [denSs, denS, den] using hP
                  | true =>
                    rw [qz, Bool.true_and] at hP
                    simp only [Bool.not_true, Bool.false_eq_true, if_false]
                    rw [denSs]
                    refine cons_ife (cs.any fun d => !isPair fs d) (fun Q hQ => ?_) ?_
                    · simp [den, denP, denI, denEs, h2, wipeE]
                      refine ix_tupk at3 ?_
                      simp [items1]
                      refine comp_ne (fun d => !isPair fs d) id hcl (fun d hd => D.ok.dat (n := 57) (by decide) (hck d hd)) (fun d hd k hk1 hk2 => ?_) hQ
                      simp [asg]
                      refine ⟨fs, d, rfl, hf, ok_le (hck d hd), ?_⟩
                      cases q5 : isPair fs d with
                      | false => simpa [q5] using hk1 (by simp [q5])
                      | true => simpa [q5] using hk2 (by simp [q5])
                    · have ea : (cs.any fun d => !isPair fs d) = !cs.all (isPair fs) := List.not_all_eq_any_not.symm
                      rw [ea]
                      cases qa : cs.all (isPair fs) with
                      | false =>
                        rw [qa] at hP
                        simpa [denSs, denS, den] using hP
                      | true =>
                        rw [qa, Bool.true_and] at hP
                        simp only [Bool.not_true, Bool.false_eq_true, if_false, denSs]
                        exact ih' hP
    exact main xs _ _ _ hlet hk hP
def shape3 (x : D) : Bool := match x with | .tup [.tup _, _, _] => true | _ => false
theorem shape3_of {x : D} (h : shape3 x = true) : ∃ fs d m, x = .tup [.tup fs, d, m] := by
  unfold shape3 at h
  split at h
  · exact ⟨_, _, _, rfl⟩
  · cases h
theorem d__law_is_world (h1 : Γ.fn "_law_is_name" = some sp_is_name) (h2 : Γ.fn "_law_are_rising" = some sp__law_are_rising) (h3 : Γ.fn "_law_are_deeds" = some sp__law_are_deeds) : Does Γ 2 1 b__law_is_world sp_is_world := by
  rintro ds st P ⟨x, rfl, hx, hP⟩
  refine ⟨rfl, ?_⟩
  unfold b__law_is_world
  refine cons_ife (!shape3 x) (fun Q hQ => ?_) ?_
  · simp [den, denB, denEs, startE, isTys_ok hx, clsB]
    cases x <;> simp [ty1] at hQ ⊢ <;> try exact hQ
    rename_i xs
    obtain ⟨m, hm, hl, hk⟩ := ok_tup hx
    cases hm
    refine len_tup ?_
    simp only [ci_ne]
    by_cases h5 : (xs.length : Int) = 3
    · obtain ⟨f, d, m, rfl⟩ := three h5
      simp at hQ ⊢
      refine ix_tupk at0 ?_
      rw [isTys_ok (ok_le (hk f (by simp))) (by rfl)]
      cases f <;> simp [ty1, shape3] at hQ ⊢ <;> exact hQ
    · simp [h5] at hQ ⊢
      rcases xs with _ | ⟨a, _ | ⟨b, _ | ⟨c, _ | ⟨d, r⟩⟩⟩⟩ <;> simp at h5 <;> simpa [shape3] using hQ
  · cases hsh : shape3 x with
    | true =>
      obtain ⟨fs, d, m, rfl⟩ := shape3_of hsh
      obtain ⟨_, hm, hl, hk⟩ := ok_tup hx
      cases hm
      have kf := hk (.tup fs) (by simp)
      have kd := ok_le (hk d (by simp))
      have km := ok_le (hk m (by simp))
      obtain ⟨_, hm, hfl, hfk⟩ := ok_tup kf
      cases hm
      simp only [Bool.not_true, Bool.false_eq_true, if_false]
      rw [denSs]
      refine cons_ife (!(decide ((0 : Int) < fs.length) && decide ((fs.length : Int) < 7) && fs.all isName)) (fun Q hQ => ?_) ?_
      · simp [den, denB, denP, denI, denEs, startE, wipeE, h1]
        refine ix_tupk at0 (len_tup ?_)
        simp only [ci_lt]
        cases z1 : decide ((0 : Int) < fs.length) with
        | false => simp only [z1] at hQ ⊢; simpa using hQ
        | true =>
          cases z2 : decide ((fs.length : Int) < 7) with
          | false => simp only [z1, z2] at hQ ⊢; simpa using hQ
          | true =>
            simp only [z1, z2] at hQ ⊢
            simp at hQ ⊢
            refine ix_tupk at0 ?_
            simp [items1]
            refine comp_ne (fun d => !isName d) id hfl (fun d hd => D.ok.dat (n := 58) (by decide) (hfk d hd)) (fun d hd k hk1 hk2 => ?_) ?_
            · simp [asg]
              refine ⟨d, rfl, ok_le (hfk d hd), ?_⟩
              cases q5 : isName d with
              | false => simpa [q5] using hk1 (by simp [q5])
              | true => simpa [q5] using hk2 (by simp [q5])
            · have ea : (fs.any fun d => !isName d) = !fs.all isName := List.not_all_eq_any_not.symm
              rw [ea]
              cases q : fs.all isName <;> simp only [q] at hQ ⊢ <;> simpa using hQ
      · have ez : (decide ((0 : Int) < fs.length) && decide ((fs.length : Int) < 7)) = (decide (1 ≤ fs.length) && decide (fs.length ≤ 6)) := by
          rw [Bool.eq_iff_iff]; simp; omega
        rw [ez]
        cases q : (decide (1 ≤ fs.length) && decide (fs.length ≤ 6) && fs.all isName) with
        | false =>
          have : isWorld (.tup [.tup fs, d, m]) = false := by simp only [isWorld, areFacts, q, Bool.false_and]
          rw [this] at hP
          simpa [denSs, denS, den] using hP
        | true =>
          simp only [Bool.not_true, Bool.false_eq_true, if_false]
          rw [denSs]
          have hn : ∀ x ∈ fs, isName x = true := by
            simp only [Bool.and_eq_true, List.all_eq_true] at q
            exact q.2
          refine cons_ife (!rises fs) (fun Q hQ => ?_) ?_
          · simp [den, denEs, startE, h2]
            refine ix_tupk at0 ⟨_, rfl, ok_le kf, fun ys e => ?_, ?_⟩
            · cases e; exact sortable_strs hfl (fun x hx => D.ok.mono (Nat.le_refl _) (by decide) (hfk x hx)) fun x hx => name_str (hn x hx)
            · cases q9 : rises fs <;> simpa [q9] using hQ
          · cases qr : rises fs with
            | false =>
              have : isWorld (.tup [.tup fs, d, m]) = false := by simp only [isWorld, areFacts, q, qr, Bool.and_false, Bool.false_and]
              rw [this] at hP
              simpa [denSs, denS, den] using hP
            | true =>
              simp only [Bool.not_true, Bool.false_eq_true, if_false]
              rw [denSs]
              have ew : isWorld (.tup [.tup fs, d, m]) = (areDeeds fs d 8 4 && areDeeds fs m 4 3) := by
                simp only [isWorld, areFacts, q, qr, Bool.true_and, tItems]
                cases d <;> try rfl
                rename_i xd
                cases m <;> try (simp [isTup, areDeeds]; done)
                rename_i xm
                simp only [isTup, areNamed, areDeeds, Bool.true_and, tItems]
                have e4 : (okD fs 4) = isDeed fs := by funext z; rfl
                have e3 : (okD fs 3) = isMeddler fs := by funext z; rfl
                rw [e4, e3]
                cases xd.all (isDeed fs) <;> cases xm.all (isMeddler fs) <;> cases decide ((xd.length : Int) ≤ 8) <;> cases decide ((xm.length : Int) ≤ 4) <;> cases rises (List.map first xd) <;> cases rises (List.map first xm) <;> rfl
              rw [ew] at hP
              simp [denSs, denS, den, denB, denEs, startE, h3]
              refine ix_tupk at0 (ix_tupk at1 ⟨fs, d, 8, 4, rfl, ok_le kf, kd, .inr rfl, ?_⟩)
              cases q1 : areDeeds fs d 8 4 with
              | false => rw [q1] at hP; simpa using hP
              | true =>
                rw [q1] at hP
                simp at hP ⊢
                exact ix_tupk at0 (ix_tupk at2 ⟨fs, m, 4, 3, rfl, ok_le kf, km, .inl rfl, hP⟩)
    | false =>
      have e2 : isWorld x = false := by
        cases q : isWorld x with
        | false => rfl
        | true =>
          unfold isWorld at q
          split at q
          · rename_i f d m
            simp only [Bool.and_eq_true] at q
            obtain ⟨fs, rfl⟩ := facts_tup q.1.1.1.1
            cases hsh
          · cases q
      rw [e2] at hP
      simpa [denSs, denS, den] using hP
end
end G
/-! What is drawn. -/
namespace G
open PySem PySem.Spec PyProof.Rows L2
def b__law_draws : Ss := (.cons (.asg (.var 2) (.bin .Mult (.int 15485863) (.var 1))) (.cons (.ife (.cmp .Lt (.var 1) (.bi .len (.var 0))) (.cons (.asg (.var 2) (.bin .Mod (.idx (.var 0) (.var 1)) (.bin .Mult (.bin .Mult (.bin .Mult (.bin .Mult (.bin .Pow (.int 10) (.int 60)) (.bin .Pow (.int 10) (.int 60))) (.bin .Pow (.int 10) (.int 60))) (.bin .Pow (.int 10) (.int 60))) (.bin .Pow (.int 10) (.int 60))))) .nil) (.cons (.ife (.cmp .Gt (.bi .len (.var 0)) (.int 0)) (.cons (.asg (.var 2) (.bin .Add (.bin .Mod (.idx (.var 0) (.bin .Mod (.var 1) (.bi .len (.var 0)))) (.bin .Pow (.int 10) (.int 15))) (.bin .Mult (.int 15485863) (.var 1)))) .nil) .nil) .nil)) (.cons (.ret (.bx (.disp (.cons (.bin .Mult (.var 2) (.bi .int (.cmp .GtE (.var 2) (.bin .Pow (.int 10) (.int 18))))) (.cons (.bin .Add (.int 1) (.bin .Mod (.bin .Add (.bin .Mult (.var 2) (.int 69621)) (.bin .Mult (.int 86028121) (.bin .Add (.var 1) (.int 1)))) (.int 2147483646))) .nil))))) .nil)))
def b__law_draw_1 : Ss := (.cons (.sto (.var 0) (.int 1) (.bin .Mod (.bin .Mult (.idx (.var 0) (.int 1)) (.int 69621)) (.int 2147483647))) (.cons (.asg (.var 2) (.bin .Add (.bin .Mult (.var 2) (.int 268435456)) (.bin .FloorDiv (.bin .Mod (.bin .Mult (.idx (.var 0) (.int 1)) (.bin .Add (.bin .FloorDiv (.idx (.var 0) (.int 1)) (.int 128)) (.int 3))) (.int 2147483629)) (.int 8)))) (.cons (.asg (.var 3) (.bin .Mult (.var 3) (.int 268435456))) .nil)))
def b__law_draw : Ss := (.cons (.ife (.cmp .Gt (.idx (.var 0) (.int 0)) (.int 0)) (.cons (.asg (.var 2) (.bin .Mod (.idx (.var 0) (.int 0)) (.var 1))) (.cons (.sto (.var 0) (.int 0) (.bin .FloorDiv (.idx (.var 0) (.int 0)) (.var 1))) (.cons (.ret (.var 2)) .nil))) .nil) (.cons (.asg (.var 2) (.int 0)) (.cons (.asg (.var 3) (.int 1)) (.cons (.whl (.cmp .Lt (.var 3) (.var 1)) b__law_draw_1) (.cons (.ret (.bin .Mod (.var 2) (.var 1))) .nil)))))
def b__law_pair_1 : Ss := (.cons (.asg (.var 5) (.call "_law_draw" (.cons (.var 0) (.cons (.var 2) .nil)))) (.cons (.ife (.cmp .Lt (.var 5) (.int 2)) (.cons (.exp (.app (.idx (.var 3) (.var 5)) (.var 4))) .nil) .nil) .nil))
def b__law_pair : Ss := (.cons (.asg (.var 3) (.bx (.disp (.cons (.bx (.disp .nil)) (.cons (.bx (.disp .nil)) .nil))))) (.cons (.for (.var 4) (.of (.var 1)) b__law_pair_1) (.cons (.ret (.tup (.cons (.bi .tuple (.idx (.var 3) (.int 0))) (.cons (.bi .tuple (.idx (.var 3) (.int 1))) .nil)))) .nil)))
def b__law_world_1 : Ss := (.cons (.asg (.var 7) (.fr (.comp [8] (.var 8) (.range1 (.idx (.fr (.disp (.cons (.int 1) (.cons (.int 1) (.cons (.int 2) (.cons (.int 3) .nil)))))) (.call "_law_draw" (.cons (.var 0) (.cons (.int 4) .nil))))) (.call "_law_pair" (.cons (.var 0) (.cons (.var 2) (.cons (.int 3) .nil))))))) (.cons (.exp (.app (.var 5) (.tup (.cons (.var 4) (.cons (.bin .Add (.int 1) (.call "_law_draw" (.cons (.var 0) (.cons (.var 3) .nil)))) (.cons (.call "_law_pair" (.cons (.var 0) (.cons (.var 2) (.cons (.int 6) .nil)))) (.cons (.bi .tuple (.var 7)) .nil))))))) .nil))
def b__law_world_2 : Ss := (.cons (.exp (.app (.var 6) (.tup (.cons (.var 4) (.cons (.call "_law_pair" (.cons (.var 0) (.cons (.var 2) (.cons (.int 4) .nil)))) (.cons (.call "_law_pair" (.cons (.var 0) (.cons (.var 2) (.cons (.int 6) .nil)))) .nil)))))) .nil)
def b__law_world : Ss := (.cons (.asg (.var 2) (.slc (.tup (.cons (.str "dry") (.cons (.str "fed") (.cons (.str "lit") (.cons (.str "open") (.cons (.str "told") (.cons (.str "warm") .nil))))))) .no (.at (.bin .Add (.int 1) (.call "_law_draw" (.cons (.var 0) (.cons (.var 1) .nil))))))) (.cons (.par [5, 6] (.cons (.bx (.disp .nil)) (.cons (.bx (.disp .nil)) .nil))) (.cons (.asg (.var 3) (.idx (.fr (.disp (.cons (.int 1) (.cons (.int 4) (.cons (.int 1000) .nil))))) (.call "_law_draw" (.cons (.var 0) (.cons (.int 3) .nil))))) (.cons (.for (.var 4) (.of (.fr (.slc (.fr (.disp (.cons (.str "air") (.cons (.str "bake") (.cons (.str "call") (.cons (.str "dig") (.cons (.str "eat") (.cons (.str "fix") (.cons (.str "go") (.cons (.str "heat") .nil)))))))))) .no (.at (.bin .Add (.int 1) (.call "_law_draw" (.cons (.var 0) (.cons (.int 7) .nil)))))))) b__law_world_1) (.cons (.for (.var 4) (.of (.fr (.slc (.fr (.disp (.cons (.str "mice") (.cons (.str "rain") (.cons (.str "thief") (.cons (.str "wind") .nil)))))) .no (.at (.idx (.fr (.disp (.cons (.int 0) (.cons (.int 0) (.cons (.int 1) (.cons (.int 2) (.cons (.int 4) .nil))))))) (.call "_law_draw" (.cons (.var 0) (.cons (.int 5) .nil)))))))) b__law_world_2) (.cons (.ret (.tup (.cons (.var 2) (.cons (.bi .tuple (.var 5)) (.cons (.bi .tuple (.var 6)) .nil))))) .nil))))))
def b__law_state : Ss := (.cons (.ret (.bi .tuple (.fr (.compif [2] (.var 2) (.of (.var 1)) (.cmp .Eq (.call "_law_draw" (.cons (.var 0) (.cons (.int 2) .nil))) (.int 0)) (.var 2))))) .nil)
def b__law_case : Ss := (.cons (.asg (.var 2) (.call "_law_world" (.cons (.var 0) (.cons (.var 1) .nil)))) (.cons (.asg (.var 3) (.call "_law_pair" (.cons (.var 0) (.cons (.idx (.var 2) (.int 0)) (.cons (.int 4) .nil))))) (.cons (.ret (.tup (.cons (.var 2) (.cons (.var 3) (.cons (.tup (.cons (.call "_law_state" (.cons (.var 0) (.cons (.idx (.var 2) (.int 0)) .nil))) (.cons (.call "_law_draw" (.cons (.var 0) (.cons (.int 3) .nil))) (.cons (.call "_law_draw" (.cons (.var 0) (.cons (.int 3) .nil))) .nil)))) .nil))))) .nil)))
def b__law_of : Ss := (.cons (.ret (.idx (.var 1) (.call "_law_draw" (.cons (.var 0) (.cons (.bi .len (.var 1)) .nil))))) .nil)
def b__law_thing : Ss := (.cons (.asg (.var 2) (.call "_law_draw" (.cons (.var 0) (.cons (.int 9) .nil)))) (.cons (.ife (.bop false (.cons (.cmp .Lt (.var 2) (.int 6)) (.cons (.cmp .Eq (.var 1) (.int 0)) .nil))) (.cons (.asg (.var 4) (.fr (.disp (.cons (.int 0) (.cons (.int 1) (.cons (.neg (.int 1)) (.cons (.bl true) (.cons (.bl false) (.cons .non (.cons (.str "") (.cons (.str "air") (.cons (.str "dry") (.cons (.str "A") (.cons (.bin .Pow (.int 10) (.int 39)) (.cons (.str "abcdefghi") (.cons (.int 4) (.cons (.int 1001) .nil))))))))))))))))) (.cons (.ret (.call "_law_of" (.cons (.var 0) (.cons (.fr (.cat (.var 4) (.fr (.disp (.cons (.tup .nil) (.cons (.fr (.disp .nil)) (.cons (.tup (.cons (.tup .nil) (.cons (.tup .nil) .nil))) (.cons (.tup (.cons (.str "dry") .nil)) (.cons (.tup (.cons (.str "lit") (.cons (.str "dry") .nil))) (.cons (.tup (.cons (.tup (.cons (.str "dry") .nil)) (.cons (.tup (.cons (.str "dry") .nil)) .nil))) (.cons (.tup (.cons (.tup .nil) (.cons (.int 0) (.cons (.int 0) .nil)))) .nil))))))))))) .nil)))) .nil)) .nil) (.cons (.asg (.var 3) (.fr (.comp [5] (.var 5) (.range1 (.call "_law_draw" (.cons (.var 0) (.cons (.int 4) .nil)))) (.call "_law_thing" (.cons (.var 0) (.cons (.bin .Sub (.var 1) (.int 1)) .nil)))))) (.cons (.ret (.idx (.fr (.disp (.cons (.var 3) (.cons (.bi .tuple (.var 3)) (.cons (.bi .tuple (.var 3)) .nil))))) (.bin .Sub (.var 2) (.int 6)))) .nil))))
def b__law_otherwise : Ss := (.cons (.asg (.var 3) (.bx (.list (.var 1)))) (.cons (.ife (.cmp .Eq (.var 3) (.fr (.disp .nil))) (.cons (.ret (.tup (.cons (.call "_law_thing" (.cons (.var 0) (.cons (.int 1) .nil))) .nil))) .nil) .nil) (.cons (.asg (.var 4) (.call "_law_draw" (.cons (.var 0) (.cons (.bi .len (.var 3)) .nil)))) (.cons (.ife (.bop true (.cons (.isi (.idx (.var 3) (.var 4)) [.tuple, .list]) (.cons (.cmp .Gt (.var 2) (.int 0)) (.cons (.cmp .Gt (.call "_law_draw" (.cons (.var 0) (.cons (.int 5) .nil))) (.int 0)) .nil)))) (.cons (.sto (.var 3) (.var 4) (.call "_law_otherwise" (.cons (.var 0) (.cons (.idx (.var 3) (.var 4)) (.cons (.bin .Sub (.var 2) (.int 1)) .nil))))) (.cons (.ret (.ite (.isi (.var 1) [.list]) (.frz (.var 3)) (.bi .tuple (.var 3)))) .nil)) .nil) (.cons (.asg (.var 5) (.call "_law_draw" (.cons (.var 0) (.cons (.int 8) .nil)))) (.cons (.ife (.cmp .Eq (.var 5) (.int 0)) (.cons (.exp (.popAt (.var 3) (.var 4))) .nil) (.cons (.ife (.cmp .Eq (.var 5) (.int 1)) (.cons (.exp (.ins (.var 3) (.var 4) (.idx (.var 3) (.var 4)))) .nil) (.cons (.ife (.cmp .Eq (.var 5) (.int 2)) (.cons (.slst (.var 3) (.var 4) (.bin .Add (.var 4) (.int 2)) (.fr (.rev (.fr (.slc (.var 3) (.at (.var 4)) (.at (.bin .Add (.var 4) (.int 2)))))))) .nil) (.cons (.ife (.cmp .Eq (.var 5) (.int 3)) (.cons (.sto (.var 3) (.var 4) (.call "_law_thing" (.cons (.var 0) (.cons (.int 2) .nil)))) .nil) (.cons (.ife (.bop true (.cons (.cmp .Eq (.var 5) (.int 4)) (.cons (.isi (.idx (.var 3) (.var 4)) [.str]) .nil))) (.cons (.asg (.var 6) (.idx (.var 3) (.var 4))) (.cons (.sto (.var 3) (.var 4) (.call "_law_of" (.cons (.var 0) (.cons (.fr (.disp (.cons (.bin .Add (.var 6) (.str "a")) (.cons (.slc (.var 6) (.at (.int 1)) .no) (.cons (.upper (.var 6)) (.cons (.str "") (.cons .non (.cons (.str "dry") (.cons (.str "zz") .nil))))))))) .nil)))) .nil)) (.cons (.ife (.bop true (.cons (.cmp .Lt (.var 5) (.int 6)) (.cons (.isi (.idx (.var 3) (.var 4)) [.int]) .nil))) (.cons (.asg (.var 7) (.idx (.var 3) (.var 4))) (.cons (.sto (.var 3) (.var 4) (.call "_law_of" (.cons (.var 0) (.cons (.fr (.disp (.cons (.bin .Add (.var 7) (.int 1)) (.cons (.bin .Sub (.var 7) (.int 1)) (.cons (.bin .Sub (.int 0) (.var 7)) (.cons (.bl true) (.cons (.bl false) (.cons .non (.cons (.mx false (.bin .Mult (.int 1000) (.var 7)) (.bin .Pow (.int 10) (.int 39))) .nil))))))))) .nil)))) .nil)) (.cons (.ife (.bop true (.cons (.cmp .Eq (.var 5) (.int 6)) (.cons (.isi (.idx (.var 3) (.var 4)) [.tuple]) .nil))) (.cons (.sto (.var 3) (.var 4) (.fr (.list (.idx (.var 3) (.var 4))))) .nil) (.cons (.ret (.ite (.isi (.var 1) [.list]) (.bi .tuple (.var 3)) (.frz (.var 3)))) .nil)) .nil)) .nil)) .nil)) .nil)) .nil)) .nil)) (.cons (.ret (.ite (.isi (.var 1) [.list]) (.frz (.var 3)) (.bi .tuple (.var 3)))) .nil)))))))
def b_law_1 : Ss := (.cons (.ife (.not (.call "_law_truly" (.cons (.call "is_world" (.cons (.var 7) .nil)) (.cons (.call "_law_is_world" (.cons (.var 7) .nil)) .nil)))) (.cons (.ret (.bl false)) .nil) .nil) .nil)
def b_law_2 : Ss := (.cons (.ife (.not (.call "_law_truly" (.cons (.call "is_state" (.cons (.var 8) (.cons (.var 7) .nil))) (.cons (.call "_law_are_some" (.cons (.idx (.var 8) (.int 0)) (.cons (.var 7) .nil))) .nil)))) (.cons (.ret (.bl false)) .nil) .nil) .nil)
def b_law_3 : Ss := (.cons (.ife (.not (.call "_law_truly" (.cons (.call "is_condition" (.cons (.var 8) (.cons (.var 7) .nil))) (.cons (.call "_law_is_pair" (.cons (.idx (.var 8) (.int 0)) (.cons (.var 7) .nil))) .nil)))) (.cons (.ret (.bl false)) .nil) .nil) .nil)
def b_law_4 : Ss := (.cons (.ife (.not (.call "_law_truly" (.cons (.call "is_place" (.cons (.var 8) (.cons (.var 7) .nil))) (.cons (.call "_law_is_place" (.cons (.var 8) (.cons (.var 7) .nil))) .nil)))) (.cons (.ret (.bl false)) .nil) .nil) .nil)
def b_law_5 : Ss := (.cons (.asg (.var 2) (.call "_law_draws" (.cons (.var 0) (.cons (.var 1) .nil)))) (.cons (.asg (.tup (.cons (.var 8) (.cons (.var 9) (.cons (.var 10) .nil)))) (.call "_law_case" (.cons (.var 2) (.cons (.int 6) .nil)))) (.cons (.asg (.var 3) (.call "_law_otherwise" (.cons (.var 2) (.cons (.var 8) (.cons (.int 5) .nil))))) (.cons (.asg (.var 4) (.tup (.cons (.tup .nil) (.cons (.tup .nil) .nil)))) (.cons (.asg (.var 5) (.bx (.disp (.cons (.var 8) (.cons (.var 3) (.cons (.fr (.list (.var 8))) (.cons (.call "_law_thing" (.cons (.var 2) (.cons (.int 3) .nil))) (.cons (.tup (.cons (.bin .Add (.idx (.var 8) (.int 0)) (.tup (.cons (.str "zz") .nil))) (.cons (.idx (.var 8) (.int 1)) (.cons (.idx (.var 8) (.int 2)) .nil)))) .nil)))))))) (.cons (.exp (.app (.var 5) (.ite (.cmp .NotIn (.var 3) (.tup (.cons (.tup .nil) (.cons (.fr (.disp .nil)) .nil)))) (.call "_law_otherwise" (.cons (.var 2) (.cons (.var 3) (.cons (.int 5) .nil)))) (.var 3)))) (.cons (.asg (.var 6) (.slc (.str "abcdefghi") .no (.at (.bin .Add (.int 7) (.call "_law_draw" (.cons (.var 2) (.cons (.int 3) .nil))))))) (.cons (.exp (.app (.var 5) (.tup (.cons (.idx (.var 8) (.int 0)) (.cons (.bi .tuple (.fr (.comp [11] (.var 11) (.of (.var 6)) (.tup (.cons (.var 11) (.cons (.int 1) (.cons (.var 4) (.cons (.tup (.cons (.var 4) .nil)) .nil)))))))) (.cons (.tup .nil) .nil)))))) (.cons (.exp (.app (.var 5) (.tup (.cons (.idx (.var 8) (.int 0)) (.cons (.tup .nil) (.cons (.bi .tuple (.fr (.comp [11] (.var 11) (.of (.slc (.var 6) .no (.at (.bin .Add (.int 3) (.call "_law_draw" (.cons (.var 2) (.cons (.int 3) .nil))))))) (.tup (.cons (.var 11) (.cons (.var 4) (.cons (.var 4) .nil))))))) .nil)))))) (.cons (.exp (.app (.var 5) (.tup (.cons (.idx (.var 8) (.int 0)) (.cons (.tup (.cons (.tup (.cons (.str "a") (.cons (.int 1) (.cons (.var 4) (.cons (.bin .Mult (.tup (.cons (.var 4) .nil)) (.bin .Add (.int 2) (.call "_law_draw" (.cons (.var 2) (.cons (.int 3) .nil))))) .nil))))) .nil)) (.cons (.tup .nil) .nil)))))) (.cons (.gfz 5) (.cons (.for (.var 7) (.of (.var 5)) b_law_1) (.cons (.for (.var 7) (.of (.fr (.disp (.cons (.idx (.var 10) (.int 0)) (.cons (.call "_law_otherwise" (.cons (.var 2) (.cons (.idx (.var 10) (.int 0)) (.cons (.int 0) .nil)))) (.cons (.fr (.list (.idx (.var 10) (.int 0)))) (.cons (.call "_law_thing" (.cons (.var 2) (.cons (.int 2) .nil))) (.cons (.var 9) .nil)))))))) b_law_2) (.cons (.for (.var 7) (.of (.fr (.disp (.cons (.var 9) (.cons (.call "_law_otherwise" (.cons (.var 2) (.cons (.var 9) (.cons (.int 1) .nil)))) (.cons (.fr (.list (.var 9))) (.cons (.call "_law_thing" (.cons (.var 2) (.cons (.int 2) .nil))) (.cons (.tup (.cons (.idx (.var 9) (.int 0)) (.cons (.idx (.var 9) (.int 0)) .nil))) (.cons (.rev (.var 9)) .nil))))))))) b_law_3) (.cons (.for (.var 7) (.of (.fr (.disp (.cons (.var 10) (.cons (.call "_law_otherwise" (.cons (.var 2) (.cons (.var 10) (.cons (.int 1) .nil)))) (.cons (.fr (.list (.var 10))) (.cons (.call "_law_thing" (.cons (.var 2) (.cons (.int 2) .nil))) (.cons (.tup (.cons (.idx (.var 10) (.int 0)) (.cons (.int 3) (.cons (.int 4) .nil)))) .nil)))))))) b_law_4) .nil)))))))))))))))
def b_law : Ss := (.cons (.for (.var 1) (.range1 (.mx true (.int 1) (.mx false (.int 20) (.bi .len (.var 0))))) b_law_5) (.cons (.ret (.bl true)) .nil))
/-- what the draws are made of -/
def Dr (st : Store) (a : Addr) : Prop := ∃ u v : Int, st a = some (.lst [.int u, .int v])
structure Keep (a : Addr) (st st' : Store) : Prop where
  dr : Dr st' a
  ob : ∀ b o, b ≠ a → st b = some o → st' b = some o
theorem Keep.refl {a : Addr} {st : Store} (h : Dr st a) : Keep a st st := ⟨h, fun _ _ _ e => e⟩
theorem Keep.trans {a : Addr} {s1 s2 s3 : Store} (h : Keep a s1 s2) (h' : Keep a s2 s3) : Keep a s1 s3 := ⟨h'.dr, fun b o n e => h'.ob b o n (h.ob b o n e)⟩
theorem set_ne {st : Store} {a b : Addr} {o : Ob} (h : b ≠ a) : st.set a o b = st b := by unfold Store.set; rw [if_neg h]
theorem Keep.set {a : Addr} {st : Store} (u v : Int) : Keep a st (st.set a (.lst [.int u, .int v])) := ⟨⟨u, v, Store.set_same⟩, fun b o n e => by rw [set_ne n]; exact e⟩
/-- a new object -/
theorem Keep.new {a b : Addr} {st : Store} {o : Ob} (h : Dr st a) (n : st b = none) : Keep a st (st.set b o) := by
  obtain ⟨u, v, e⟩ := h
  refine ⟨⟨u, v, ?_⟩, fun c o' hc e' => ?_⟩
  · rw [set_ne (fun z => by rw [z, n] at e; cases e)]; exact e
  · rw [set_ne (fun z => by rw [z, n] at e'; cases e')]; exact e'
theorem ix_loc {st : Store} {a : Addr} {xs : List D} {j : Int} {d : D} {k : D → Prop} (e : st a = some (.lst xs)) (h : atI xs j = some d) (q : k d) : idxR st (.loc a) (.int j) k := .inl ⟨xs, j, d, by show (match st a with | some (.lst xs) => some xs | _ => none) = _; rw [e], rfl, h, q⟩
theorem cons_ife' {Γ : Ctx} {ρ : Env} {st : Store} {c : E} {a b : Ss} {K : Kn} (t : Bool) (hc : Ev Γ ρ st c (.bl t)) (h : if t = true then denSs Γ X0 a K ρ st else denSs Γ X0 b K ρ st) : denS Γ X0 (.ife c a b) K ρ st := ife_ev t hc h
def sp__law_draw : Spec := fun ds st P _ => ∃ a m, ds = [.loc a, .int m] ∧ 0 < m ∧ m < 1073741824 ∧ Dr st a ∧ ∀ r st', 0 ≤ r → r < m → Keep a st st' → P (.int r) st'
section
variable {Γ : Ctx}
theorem ixN0 {n : Nat} (h : 0 < n) : ixN n 0 = some 0 := by unfold ixN; rw [if_pos (by decide), if_pos (by omega)]; rfl
theorem ixN1 {n : Nat} (h : 1 < n) : ixN n 1 = some 1 := by unfold ixN; rw [if_pos (by decide), if_pos (by omega)]; rfl
theorem d__law_draw : Does Γ 4 2 b__law_draw sp__law_draw := by
  rintro ds st P ⟨a, m, rfl, hm, hm2, ⟨u, v, e⟩, hP⟩
  refine ⟨rfl, ?_⟩
  unfold b__law_draw
  refine cons_ife (decide (0 < u)) (fun Q hQ => ?_) ?_
  · simp [den, startE]
    exact ix_loc e at0 (by simpa [ci_gt] using hQ)
  · by_cases hu : 0 < u
    · simp only [hu, decide_true, if_true]
      refine cons_asg (.int (u % m)) (fun Q hQ => ?_) ?_
      · simp [den, startE]
        exact ix_loc e at0 ⟨hm, hQ⟩
      · rw [denSs, denS]
        simp [den, startE]
        refine ix_loc e at0 ⟨⟨hm, hm2⟩, ?_⟩
        refine ⟨_, e, 0, 0, rfl, ixN0 (by simp), ?_⟩
        simp [denSs, denS, den]
        exact hP _ _ (Int.emod_nonneg _ (by omega)) (Int.emod_lt_of_pos _ hm) (Keep.set _ _)
    · simp only [hu, decide_false, Bool.false_eq_true, if_false]
      rw [denSs]
      refine cons_asg (.int 0) (fun Q hQ => by simpa [den] using hQ) ?_
      refine cons_asg (.int 1) (fun Q hQ => by simpa [den] using hQ) ?_
      rw [denSs, denS]
      refine ⟨4, whlN_inv (fun n ρ st' => ∃ f : Int, n ≤ 2 ∧ ρ = [some (.loc a), some (.int m), some (.int f), some (.int (2 ^ (28 * (2 - n))))] ∧ Keep a st st') ?_ 4 _ _ 2 (by decide) ⟨0, by decide, rfl, Keep.refl ⟨u, v, e⟩⟩⟩
      rintro n ρ st' N ⟨f, hn, rfl, hk⟩ hN
      simp only [den]
      simp [ci_lt]
      by_cases hw : (2 : Int) ^ (28 * (2 - n)) < m
      · simp only [hw, if_true]
        have hn0 : 1 ≤ n := by
          rcases n with _ | n
          · exfalso
            have : (2 : Int) ^ (28 * (2 - 0)) = 72057594037927936 := by decide
            rw [this] at hw
            omega
          · omega
        obtain ⟨u', v', e'⟩ := hk.dr
        unfold b__law_draw_1
        rw [denSs, denS]
        simp [den]
        refine ix_loc e' at1 ⟨.inl (.inr ⟨by decide, by decide⟩), ?_⟩
        simp [opR]
        refine ⟨_, e', 1, 1, rfl, ixN1 (by simp), ?_⟩
        simp [denSs, denS, den]
        have hv1 : 0 ≤ v' * 69621 % 2147483647 := Int.emod_nonneg _ (by decide)
        have hv2 : v' * 69621 % 2147483647 < 2147483647 := Int.emod_lt_of_pos _ (by decide)
        generalize v' * 69621 % 2147483647 = w at hv1 hv2 ⊢
        have es : (st'.set a (.lst [.int u', .int w])) a = some (.lst [.int u', .int w]) := Store.set_same
        have hmul1 : ∀ x : Int, MulOk x 268435456 := fun x => .inl (.inr ⟨by decide, by decide⟩)
        refine ⟨hmul1 _, ?_⟩
        refine ix_loc es at1 (ix_loc es at1 ?_)
        simp [opR]
        refine ⟨.inl (.inl ⟨by omega, by omega⟩), hmul1 _, ?_⟩
        refine hN (n - 1) _ _ (by omega) ⟨f * 268435456 + w * (w / 128 + 3) % 2147483629 / 8, by omega, ?_, hk.trans (Keep.set _ _)⟩
        have ep : (2 : Int) ^ (28 * (2 - n)) * 268435456 = 2 ^ (28 * (2 - (n - 1))) := by
          have : 28 * (2 - (n - 1)) = 28 * (2 - n) + 28 := by omega
          rw [this, Int.pow_add]
          rfl
        rw [ep]
        rfl
      · simp only [hw, if_false]
        simp [denSs, denS, den, opR, hm]
        exact hP _ _ (Int.emod_nonneg _ (by omega)) (Int.emod_lt_of_pos _ hm) hk
def sp__law_draws : Spec := fun ds st P _ => ∃ xs k, ds = [.ro xs, .int (Nat.cast k)] ∧ Ints xs ∧ ∀ a st', st a = none → Dr st' a → (∀ b o, st b = some o → st' b = some o) → P (.loc a) st'
theorem len_ro {st : Store} {xs : List D} {k : D → Prop} (q : k (.int xs.length)) : biR st .len (.ro xs) k := .inl ⟨xs, rfl, q⟩
theorem ix_ro {st : Store} {xs : List D} {j : Int} {d : D} {k : D → Prop} (h : atI xs j = some d) (q : k d) : idxR st (.ro xs) (.int j) k := .inl ⟨xs, j, d, rfl, rfl, h, q⟩
theorem mulW {i j : Int} (h : i.natAbs.log2 + j.natAbs.log2 < 1000000) : MulOk i j := .inr h
theorem d__law_draws : Does Γ 3 2 b__law_draws sp__law_draws := by
  rintro ds st P ⟨xs, k, rfl, hi, hP⟩
  refine ⟨rfl, ?_⟩
  unfold b__law_draws
  have hm : ∀ x : Int, MulOk 15485863 x := fun x => .inl (.inl ⟨by decide, by decide⟩)
  refine cons_asg (.int (15485863 * k)) (fun Q hQ => by simp [den, startE, opR]; exact ⟨hm _, hQ⟩) ?_
  -- what is returned
  have tail : ∀ cell : Int, denSs Γ X0 (.cons (.ret (.bx (.disp (.cons (.bin .Mult (.var 2) (.bi .int (.cmp .GtE (.var 2) (.bin .Pow (.int 10) (.int 18))))) (.cons (.bin .Add (.int 1) (.bin .Mod (.bin .Add (.bin .Mult (.var 2) (.int 69621)) (.bin .Mult (.int 86028121) (.bin .Add (.var 1) (.int 1)))) (.int 2147483646))) .nil))))) .nil)
      { nx := fun _ st => P .non st, rt := P } [some (.ro xs), some (.int (Nat.cast k)), some (.int cell)] st := by
    intro cell
    rw [denSs, denS]
    simp only [den, denP, denEs, List.getElem?_cons_zero, List.getElem?_cons_succ, opR, ci_ge]
    refine ⟨⟨by decide, by decide, by decide⟩, .inr ⟨_, rfl, ?_⟩⟩
    refine ⟨.inl (.inr ?_), ⟨.inl (.inr ⟨by decide, by decide⟩), .inl (.inl ⟨by decide, by decide⟩), by decide, ?_, fun a ha => ?_⟩⟩
    · split <;> decide
    · simp; decide
    · exact hP a _ ha ⟨_, _, Store.set_same⟩ fun b o e => by rw [set_ne fun z => by rw [z, ha] at e; cases e]; exact e
  have e0 : (startE 3 [.ro xs, .int (Nat.cast k)]).set 2 (some (.int (15485863 * (k : Int)))) = [some (.ro xs), some (.int (Nat.cast k)), some (.int (15485863 * (k : Int)))] := rfl
  rw [e0]
  refine cons_ife (decide ((k : Int) < xs.length)) (fun Q hQ => ?_) ?_
  · simp [den]
    exact len_ro (by simpa [ci_lt] using hQ)
  · by_cases h1 : (k : Int) < xs.length
    · simp only [h1, decide_true, if_true]
      obtain ⟨i, hi'⟩ := hi xs[k] (List.getElem_mem (by omega))
      have hat : atI xs (k : Int) = some (.int i) := at_nat (by rw [List.getElem?_eq_getElem (by omega), hi'])
      refine cons_asg (.int (i % (10 ^ 60 * 10 ^ 60 * 10 ^ 60 * 10 ^ 60 * 10 ^ 60))) (fun Q hQ => ?_) ?_
      · simp only [den, List.getElem?_cons_zero, List.getElem?_cons_succ]
        refine ix_ro hat ?_
        simp only [opR]
        have hc : CPow 10 60 := ⟨by decide, by decide, by decide⟩
        refine ⟨hc, hc, mulW (by decide +kernel), hc, mulW (by decide +kernel), hc, mulW (by decide +kernel), hc, mulW (by decide +kernel), by decide +kernel, ?_⟩
        exact hQ
      · simp only [denSs]
        exact tail _
    · simp only [h1, decide_false, Bool.false_eq_true, if_false]
      refine cons_ife (decide (0 < (xs.length : Int))) (fun Q hQ => ?_) ?_
      · simp [den]
        refine len_ro ?_
        rw [ci_gt]
        exact hQ
      · by_cases h2 : 0 < (xs.length : Int)
        · simp only [h2, decide_true, if_true]
          have hlt : k % xs.length < xs.length := Nat.mod_lt _ (by omega)
          obtain ⟨i, hi'⟩ := hi xs[k % xs.length] (List.getElem_mem hlt)
          have hat : atI xs ((k : Int) % (xs.length : Int)) = some (.int i) := by
            rw [← Int.natCast_emod]
            exact at_nat (by rw [List.getElem?_eq_getElem hlt, hi'])
          refine cons_asg (.int (i % 10 ^ 15 + 15485863 * k)) (fun Q hQ => ?_) ?_
          · simp only [den, List.getElem?_cons_zero, List.getElem?_cons_succ]
            refine len_ro ⟨by omega, ix_ro hat ?_⟩
            exact ⟨⟨by decide, by decide, by decide⟩, by decide, hm _, hQ⟩
          · simp only [denSs]
            exact tail _
        · simp only [h2, decide_false, Bool.false_eq_true, if_false, denSs]
          exact tail _
/-- facts put and taken, from these -/
def PairOf (fs ps ts : List D) : Prop := ps.Sublist fs ∧ ts.Sublist fs ∧ ∃ l, l.Sublist fs ∧ (ps ++ ts).Perm l
def pairD (ps ts : List D) : D := .tup [.tup ps, .tup ts]
def sp__law_pair : Spec := fun ds st P _ => ∃ a fs share, ds = [.loc a, .tup fs, .int share] ∧ fs.length ≤ 1000 ∧ 0 < share ∧ share < 1073741824 ∧ Dr st a ∧ ∀ ps ts st', PairOf fs ps ts → Keep a st st' → P (pairD ps ts) st'
theorem Keep.bump {a b : Addr} {st st' : Store} {o : Ob} (h : Keep a st st') (hn : st b = none) (hb : b ≠ a) : Keep a st (st'.set b o) := by
  obtain ⟨u, v, e⟩ := h.dr
  refine ⟨⟨u, v, by rw [set_ne hb.symm]; exact e⟩, fun c o' hc e' => ?_⟩
  rw [set_ne (fun z => by rw [z, hn] at e'; cases e')]
  exact h.ob c o' hc e'
theorem PairOf.put {fs ps ts : List D} {x : D} (h : PairOf fs ps ts) : PairOf (fs ++ [x]) (ps ++ [x]) ts := by
  obtain ⟨h1, h2, l, h3, h4⟩ := h
  refine ⟨h1.append (List.Sublist.refl _), h2.trans (List.sublist_append_left _ _), l ++ [x], h3.append (List.Sublist.refl _), ?_⟩
  have : (ps ++ [x] ++ ts).Perm (ps ++ ts ++ [x]) := by
    rw [List.append_assoc, List.append_assoc]
    exact List.Perm.append_left _ List.perm_append_comm
  exact this.trans (h4.append_right _)
theorem PairOf.take {fs ps ts : List D} {x : D} (h : PairOf fs ps ts) : PairOf (fs ++ [x]) ps (ts ++ [x]) := by
  obtain ⟨h1, h2, l, h3, h4⟩ := h
  refine ⟨h1.trans (List.sublist_append_left _ _), h2.append (List.Sublist.refl _), l ++ [x], h3.append (List.Sublist.refl _), ?_⟩
  rw [← List.append_assoc]
  exact h4.append_right _
theorem PairOf.skip {fs ps ts : List D} {x : D} (h : PairOf fs ps ts) : PairOf (fs ++ [x]) ps ts := by
  obtain ⟨h1, h2, l, h3, h4⟩ := h
  exact ⟨h1.trans (List.sublist_append_left _ _), h2.trans (List.sublist_append_left _ _), l, h3.trans (List.sublist_append_left _ _), h4⟩
theorem take_snoc {fs : List D} {i : Nat} {d : D} (h : fs[i]? = some d) : fs.take (i + 1) = fs.take i ++ [d] := by
  rw [List.take_add_one, h]; rfl
theorem d__law_pair (h1 : Γ.fn "_law_draw" = some sp__law_draw) : Does Γ 6 3 b__law_pair sp__law_pair := by
  rintro ds st P ⟨a, fs, share, rfl, hl, hs1, hs2, hd, hP⟩
  refine ⟨rfl, ?_⟩
  unfold b__law_pair
  rw [denSs, denS]
  simp only [den, denP, denEs, asg]
  refine ⟨by decide, fun p hp => ⟨by decide, fun q hq => ⟨by simp; decide, fun c hc => ?_⟩⟩⟩
  obtain ⟨u0, v0, ea⟩ := hd
  have npa : p ≠ a := fun z => by rw [z, ea] at hp; cases hp
  have hq0 : q ≠ p ∧ st q = none := by
    by_cases z : q = p
    · rw [z, Store.set_same] at hq; cases hq
    · exact ⟨z, by rw [set_ne z] at hq; exact hq⟩
  have nqa : q ≠ a := fun z => by rw [z, ea] at hq0; cases hq0.2
  have hc0 : c ≠ q ∧ c ≠ p ∧ st c = none := by
    by_cases z : c = q
    · rw [z, Store.set_same] at hc; cases hc
    · rw [set_ne z] at hc
      by_cases z2 : c = p
      · rw [z2, Store.set_same] at hc; cases hc
      · rw [set_ne z2] at hc; exact ⟨z, z2, hc⟩
  have nca : c ≠ a := fun z => by rw [z, ea] at hc0; cases hc0.2.2
  rw [denSs, denS]
  have k0 : Keep a st (((st.set p (.lst [])).set q (.lst [])).set c (.lst [.loc p, .loc q])) :=
    (((Keep.refl ⟨u0, v0, ea⟩).bump hp npa).bump hq0.2 nqa).bump hc0.2.2 nca
  simp [denI, den, startE, items1]
  refine forL_inv (fun i ρ st' => ∃ ps ts o4 o5, ρ = [some (.loc a), some (.tup fs), some (.int share), some (.loc c), o4, o5] ∧ Keep a st st' ∧ st' p = some (.lst ps) ∧ st' q = some (.lst ts) ∧ st' c = some (.lst [.loc p, .loc q]) ∧ PairOf (fs.take i) ps ts) fs 0 _ _
    ⟨[], [], none, none, rfl, k0, by rw [set_ne hc0.2.1.symm, set_ne hq0.1.symm, Store.set_same], by rw [set_ne hc0.1.symm, Store.set_same], Store.set_same, List.Sublist.refl _, List.Sublist.refl _, [], List.Sublist.refl _, List.Perm.refl _⟩ ?_ ?_
  · rintro i d ρ st1 N hi ⟨ps, ts, o4, o5, rfl, hk, ep, eq, ec, hpo⟩ hN
    rw [Nat.zero_add] at hpo hN
    have hil : i < fs.length := (List.getElem?_eq_some_iff.mp hi).1
    have hlp : ps.length ≤ 1000 := Nat.le_trans (hpo.1.length_le) (by rw [List.length_take]; omega)
    have hlt : ts.length ≤ 1000 := Nat.le_trans (hpo.2.1.length_le) (by rw [List.length_take]; omega)
    unfold b__law_pair_1
    simp only [asg]
    rw [denSs, denS]
    simp [den, denEs, h1, asg]
    refine ⟨a, share, rfl, hs1, hs2, hk.dr, fun r st2 hr0 hr1 hk2 => ?_⟩
    have ep2 := hk2.ob p _ npa ep
    have eq2 := hk2.ob q _ nqa eq
    have ec2 := hk2.ob c _ nca ec
    refine cons_ife (decide (r < 2)) (fun Q hQ => by simpa [den, ci_lt] using hQ) ?_
    by_cases hr : r < 2
    · simp only [hr, decide_true, if_true, denSs, denS, den]
      have hr' : r = 0 ∨ r = 1 := by omega
      rcases hr' with rfl | rfl
      · refine ix_loc ec2 at0 ⟨p, ps, rfl, ep2, ps, ep2, Nat.lt_of_le_of_lt hlp (by decide), ?_⟩
        refine hN _ _ ⟨ps ++ [d], ts, _, _, rfl, ?_, Store.set_same, by rw [set_ne hq0.1]; exact eq2, by rw [set_ne hc0.2.1]; exact ec2, ?_⟩
        · exact (hk.trans hk2).bump hp npa
        · rw [take_snoc hi]; exact hpo.put
      · refine ix_loc ec2 at1 ⟨q, ts, rfl, eq2, ts, eq2, Nat.lt_of_le_of_lt hlt (by decide), ?_⟩
        refine hN _ _ ⟨ps, ts ++ [d], _, _, rfl, ?_, by rw [set_ne hq0.1.symm]; exact ep2, Store.set_same, by rw [set_ne hc0.1]; exact ec2, ?_⟩
        · exact (hk.trans hk2).bump hq0.2 nqa
        · rw [take_snoc hi]; exact hpo.take
    · simp only [hr, decide_false, Bool.false_eq_true, if_false, denSs]
      exact hN _ _ ⟨ps, ts, _, _, rfl, hk.trans hk2, ep2, eq2, ec2, by rw [take_snoc hi]; exact hpo.skip⟩
  · rintro ρ st1 ⟨ps, ts, o4, o5, rfl, hk, ep, eq, ec, hpo⟩
    rw [Nat.zero_add, List.take_length] at hpo
    have sp : seqOf st1 (.loc p) = some ps := by show (match st1 p with | some (.lst xs) => some xs | _ => none) = _; rw [ep]
    have sq : seqOf st1 (.loc q) = some ts := by show (match st1 q with | some (.lst xs) => some xs | _ => none) = _; rw [eq]
    simp [denSs, denS, den, denEs]
    refine ix_loc ec at0 ⟨ps, sp, ix_loc ec at1 ⟨ts, sq, by decide, hP ps ts _ hpo hk⟩⟩
def sp__law_state : Spec := fun ds st P _ => ∃ a fs, ds = [.loc a, .tup fs] ∧ fs.length ≤ 1000 ∧ Dr st a ∧ ∀ xs st', xs.Sublist fs → Keep a st st' → P (.tup xs) st'
theorem d__law_state (h1 : Γ.fn "_law_draw" = some sp__law_draw) : Does Γ 3 2 b__law_state sp__law_state := by
  rintro ds st P ⟨a, fs, rfl, hl, hd, hP⟩
  refine ⟨rfl, ?_⟩
  simp [b__law_state, denSs, denS, den, denP, denI, denEs, startE, h1, items1, wipeE]
  refine turns_inv (fun i acc st' => acc.Sublist (fs.take i) ∧ Keep a st st') fs 0 st [] (Nat.zero_le _) (by simpa using sz1000 hl) ⟨List.nil_sublist _, Keep.refl hd⟩ ?_ ?_
  · rintro j d st1 acc k hj ⟨hs, hk⟩ h1 h2
    rw [Nat.zero_add] at hs h1 h2
    simp [asg]
    refine ⟨a, 2, rfl, by decide, by decide, hk.dr, fun r st2 hr0 hr1 hk2 => ?_⟩
    show cmpR st2 .Eq (.int r) (.int 0) _
    rw [ci_eq]
    by_cases hr : r = 0
    · simp only [hr, decide_true, if_true]
      exact h1 d st2 ⟨by rw [take_snoc hj]; exact hs.append (List.Sublist.refl _), hk.trans hk2⟩
    · simp only [hr, decide_false, Bool.false_eq_true, if_false]
      exact h2 st2 ⟨by rw [take_snoc hj]; exact hs.trans (List.sublist_append_left _ _), hk.trans hk2⟩
  · rintro acc st1 ⟨hs, hk⟩
    rw [Nat.zero_add, List.take_length] at hs
    exact ⟨acc, rfl, hP _ _ hs hk⟩
def sp__law_of : Spec := fun ds st P _ => ∃ a s xs, ds = [.loc a, s] ∧ (s = .tup xs ∨ s = .lst xs) ∧ 0 < xs.length ∧ xs.length ≤ 1000 ∧ Dr st a ∧ ∀ d st', d ∈ xs → Keep a st st' → P d st'
theorem seq_fr {st : Store} {s : D} {xs : List D} (h : s = .tup xs ∨ s = .lst xs) : seqOf st s = some xs := by
  rcases h with rfl | rfl <;> rfl
theorem at_ex {xs : List D} {r : Int} (h0 : 0 ≤ r) (h1 : r < xs.length) : ∃ d, d ∈ xs ∧ atI xs r = some d := by
  obtain ⟨n, rfl⟩ := Int.eq_ofNat_of_zero_le h0
  have hn : n < xs.length := by omega
  exact ⟨xs[n], List.getElem_mem hn, at_nat (List.getElem?_eq_getElem hn)⟩
theorem d__law_of (h1 : Γ.fn "_law_draw" = some sp__law_draw) : Does Γ 2 2 b__law_of sp__law_of := by
  rintro ds st P ⟨a, s, xs, rfl, hs, hl0, hl, hd, hP⟩
  refine ⟨rfl, ?_⟩
  simp [b__law_of, denSs, denS, den, denEs, startE, h1]
  refine .inl ⟨xs, seq_fr hs, ?_⟩
  refine ⟨a, xs.length, rfl, by omega, by omega, hd, fun r st' h0 h1 hk => ?_⟩
  obtain ⟨d, hm, e⟩ := at_ex h0 h1
  exact .inl ⟨xs, r, d, seq_fr hs, rfl, e, hP d st' hm hk⟩
/-! worlds -/
def FACTS : List D := [.str "dry", .str "fed", .str "lit", .str "open", .str "told", .str "warm"]
def DEEDS : List D := [.str "air", .str "bake", .str "call", .str "dig", .str "eat", .str "fix", .str "go", .str "heat"]
def MEDS : List D := [.str "mice", .str "rain", .str "thief", .str "wind"]
def DeedOk (fs : List D) (nm d : D) : Prop := ∃ (c : Int) (ps ts chs : List D), d = .tup [nm, .int c, pairD ps ts, .tup chs] ∧ 1 ≤ c ∧ c ≤ 1000 ∧ PairOf fs ps ts ∧ 1 ≤ chs.length ∧ chs.length ≤ 3 ∧ ∀ ch ∈ chs, ∃ ps ts, ch = pairD ps ts ∧ PairOf fs ps ts
def MedOk (fs : List D) (nm d : D) : Prop := ∃ ps ts ps' ts', d = .tup [nm, pairD ps ts, pairD ps' ts'] ∧ PairOf fs ps ts ∧ PairOf fs ps' ts'
def Each (R : D → D → Prop) (nms xs : List D) : Prop := ∀ (i : Nat) (d : D), xs[i]? = some d → ∃ nm, nms[i]? = some nm ∧ R nm d
def WorldOk (most : Int) (w : D) : Prop := ∃ (n : Nat) (ds ms : List D), 1 ≤ n ∧ (n : Int) ≤ most ∧ n ≤ 6 ∧ w = .tup [.tup (FACTS.take n), .tup ds, .tup ms] ∧ 1 ≤ ds.length ∧ ds.length ≤ 7 ∧ ms.length ≤ 4 ∧
  Each (DeedOk (FACTS.take n)) DEEDS ds ∧ Each (MedOk (FACTS.take n)) MEDS ms
def sp__law_world : Spec := fun ds st P _ => ∃ a most, ds = [.loc a, .int most] ∧ 0 < most ∧ most ≤ 6 ∧ Dr st a ∧ ∀ w st', WorldOk most w → Keep a st st' → P w st'
theorem cut_take {xs : List D} (k : Nat) : cutD xs none (some (k : Int)) = xs.take k := by
  unfold cutD
  rw [HT.sIx_nat]
  show (xs.drop 0).take (min k xs.length - 0) = _
  rw [List.drop_zero, Nat.sub_zero]
  by_cases h : k ≤ xs.length
  · rw [Nat.min_eq_left h]
  · rw [Nat.min_eq_right (by omega), List.take_length, List.take_of_length_le (by omega)]
theorem d__law_world (h1 : Γ.fn "_law_draw" = some sp__law_draw) (h2 : Γ.fn "_law_pair" = some sp__law_pair) : Does Γ 9 2 b__law_world sp__law_world := by
  rintro ds st P ⟨a, most, rfl, hm, hm6, hd, hP⟩
  refine ⟨rfl, ?_⟩
  unfold b__law_world
  rw [denSs, denS]
  simp only [den, denO, denEs, h1, startE, List.map_cons, List.map_nil, List.cons_append, List.nil_append, List.getElem?_cons_zero, List.getElem?_cons_succ, List.length_cons, List.length_nil]
  refine ⟨by decide, a, most, rfl, hm, by omega, hd, fun r st1 hr0 hr1 hk1 => ?_⟩
  obtain ⟨n0, rfl⟩ := Int.eq_ofNat_of_zero_le hr0
  refine ⟨_, rfl, ?_⟩
  have e1 : (1 : Int) + (n0 : Int) = ((n0 + 1 : Nat) : Int) := by omega
  simp only [slcR, e1]
  have ef : ([.str "dry", .str "fed", .str "lit", .str "open", .str "told", .str "warm"] : List D) = FACTS := rfl
  rw [ef, cut_take]
  generalize hn : n0 + 1 = n
  have hfl : (FACTS.take n).length ≤ 1000 := by rw [List.length_take]; exact Nat.le_trans (Nat.min_le_right _ _) (by decide)
  generalize hfs : FACTS.take n = fs at hfl ⊢
  have hn1 : 1 ≤ n := by omega
  have hnm : (n : Int) ≤ most := by omega
  simp only [asg]
  have ee : ((some (D.loc a) :: some (D.int most) :: List.replicate (9 - (0 + 1 + 1)) none).set 2 (some (.tup fs))) = [some (.loc a), some (.int most), some (.tup fs), none, none, none, none, none, none] := rfl
  rw [ee]
  -- deeds, meddlers = [], []
  rw [denSs, denS]
  simp only [denEs, den, denP]
  refine ⟨by decide, fun p hp => ⟨by decide, fun q hq => ⟨rfl, ?_⟩⟩⟩
  obtain ⟨u0, v0, ea⟩ := hk1.dr
  have npa : p ≠ a := fun z => by rw [z, ea] at hp; cases hp
  have hq0 : q ≠ p ∧ st1 q = none := by
    by_cases z : q = p
    · rw [z, Store.set_same] at hq; cases hq
    · exact ⟨z, by rw [set_ne z] at hq; exact hq⟩
  have nqa : q ≠ a := fun z => by rw [z, ea] at hq0; cases hq0.2
  have hnp : st p = none := by
    cases z : st p with
    | none => rfl
    | some o => rw [hk1.ob p o npa z] at hp; cases hp
  have hnq : st q = none := by
    cases z : st q with
    | none => rfl
    | some o => have := hk1.ob q o nqa z; rw [hq0.2] at this; cases this
  have k0 : Keep a st1 ((st1.set p (.lst [])).set q (.lst [])) := ((Keep.refl ⟨u0, v0, ea⟩).bump hp npa).bump hq0.2 nqa
  have ep0 : ((st1.set p (.lst [])).set q (.lst [])) p = some (.lst []) := by rw [set_ne hq0.1.symm, Store.set_same]
  have eq0 : ((st1.set p (.lst [])).set q (.lst [])) q = some (.lst []) := Store.set_same
  generalize (st1.set p (.lst [])).set q (.lst []) = st2 at k0 ep0 eq0 ⊢
  simp only [setAll, List.set]
  have hkp : ∀ {s s' : Store} {x : Addr} {o : Ob}, x ≠ a → s x = some o → Keep a s s' → s' x = some o := fun hx e k => k.ob _ _ hx e
  -- far
  rw [denSs, denS]
  simp only [den, denP, denEs, h1, List.getElem?_cons_zero]
  refine ⟨by decide, a, 3, rfl, by decide, by decide, k0.dr, fun r3 st3 hr30 hr31 hk3 => ?_⟩
  obtain ⟨far, hfar, hf⟩ : ∃ far : Int, (far = 1 ∨ far = 4 ∨ far = 1000) ∧ atI [D.int 1, .int 4, .int 1000] r3 = some (.int far) := by
    have : r3 = 0 ∨ r3 = 1 ∨ r3 = 2 := by omega
    rcases this with rfl | rfl | rfl
    · exact ⟨1, .inl rfl, at0⟩
    · exact ⟨4, .inr (.inl rfl), at1⟩
    · exact ⟨1000, .inr (.inr rfl), at2⟩
  refine .inl ⟨_, r3, _, rfl, rfl, hf, ?_⟩
  simp only [asg, List.set]
  -- for name in ..
  rw [denSs, denS]
  simp only [denI, den, denP, denO, denEs, h1, List.getElem?_cons_zero]
  refine ⟨by decide, a, 7, rfl, by decide, by decide, hk3.dr, fun r4 st4 hr40 hr41 hk4 => ?_⟩
  obtain ⟨n4, rfl⟩ := Int.eq_ofNat_of_zero_le hr40
  refine ⟨_, rfl, ?_⟩
  have e4 : (1 : Int) + (n4 : Int) = ((n4 + 1 : Nat) : Int) := by omega
  simp only [slcL, lstOf, e4]
  refine ⟨_, rfl, ?_⟩
  have ed : ([.str "air", .str "bake", .str "call", .str "dig", .str "eat", .str "fix", .str "go", .str "heat"] : List D) = DEEDS := rfl
  rw [ed, cut_take]
  have hdl : (DEEDS.take (n4 + 1)).length = n4 + 1 := by rw [List.length_take]; show min (n4 + 1) 8 = _; omega
  simp only [items1]
  refine forL_inv (fun i ρ st' => ∃ es o4 o7 o8, ρ = [some (.loc a), some (.int most), some (.tup fs), some (.int far), o4, some (.loc p), some (.loc q), o7, o8] ∧ Keep a st st' ∧ st' p = some (.lst es) ∧ st' q = some (.lst []) ∧ es.length = i ∧ Each (DeedOk fs) DEEDS es) _ 0 _ _
    ⟨[], none, none, none, rfl, hk1.trans (k0.trans (hk3.trans hk4)), hkp npa (hkp npa ep0 hk3) hk4, hkp nqa (hkp nqa eq0 hk3) hk4, rfl, fun i d h => by simp at h⟩ ?_ ?_
  · rintro i nm ρ st5 N hi ⟨es, o4, o7, o8, rfl, hk, ep, eq, el, he⟩ hN
    rw [Nat.zero_add] at el hN
    have hil : i < n4 + 1 := by have := (List.getElem?_eq_some_iff.mp hi).1; omega
    have hnm' : DEEDS[i]? = some nm := by rw [List.getElem?_take] at hi; rw [if_pos hil] at hi; exact hi
    unfold b__law_world_1
    simp only [asg, List.set]
    rw [denSs, denS]
    simp only [den, denP, denI, denEs, h1, h2, List.getElem?_cons_zero, List.getElem?_cons_succ]
    refine ⟨by decide, a, 4, rfl, by decide, by decide, hk.dr, fun r6 st6 hr60 hr61 hk6 => ?_⟩
    obtain ⟨m6, hm61, hm63, hf6⟩ : ∃ m6 : Nat, 1 ≤ m6 ∧ m6 ≤ 3 ∧ atI [D.int 1, .int 1, .int 2, .int 3] r6 = some (.int m6) := by
      have : r6 = 0 ∨ r6 = 1 ∨ r6 = 2 ∨ r6 = 3 := by omega
      rcases this with rfl | rfl | rfl | rfl
      · exact ⟨1, by decide, by decide, at0⟩
      · exact ⟨1, by decide, by decide, at1⟩
      · exact ⟨2, by decide, by decide, at2⟩
      · exact ⟨3, by decide, by decide, at3⟩
    refine .inl ⟨_, r6, _, rfl, rfl, hf6, m6, rfl, ⟨by omega, by omega⟩, ?_⟩
    have hrl : (rangeL 0 (m6 : Int).toNat).length = m6 := by simp [rangeL]
    refine turns_inv (fun i acc st' => acc.length = i ∧ Keep a st6 st' ∧ ∀ x ∈ acc, ∃ ps ts, x = pairD ps ts ∧ PairOf fs ps ts) _ 0 st6 [] (Nat.zero_le _) (by rw [hrl]; exact sz1000 (by omega)) ⟨rfl, Keep.refl hk6.dr, fun x hx => by cases hx⟩ ?_ ?_
    · rintro j d st7 acc k hj ⟨hal, hk7, hx7⟩ g1 g2
      simp only [asg, wipeE, List.set, List.getElem?_cons_zero, List.getElem?_cons_succ]
      refine ⟨a, fs, 3, rfl, hfl, by decide, by decide, hk7.dr, fun ps ts st8 hpo hk8 => ?_⟩
      refine g1 _ _ ⟨by rw [List.length_append, hal]; rfl, hk7.trans hk8, fun x hx => ?_⟩
      rcases List.mem_append.mp hx with hx | hx
      · exact hx7 x hx
      · rw [List.mem_singleton.mp hx]; exact ⟨ps, ts, rfl, hpo⟩
    · rintro chs st7 ⟨hcl, hk7, hch⟩
      rw [Nat.zero_add, hrl] at hcl
      have K7 := hk6.trans hk7
      simp only [asg, denSs, denS, den, denEs, h1, h2, List.getElem?_cons_zero, List.getElem?_cons_succ, List.set]
      have ep7 := K7.ob p _ npa ep
      refine ⟨p, es, rfl, ep7, a, far, rfl, by omega, by omega, hk7.dr, fun r8 st8 h80 h81 hk8 => ?_⟩
      simp only [opR]
      refine ⟨a, fs, 6, rfl, hfl, by decide, by decide, hk8.dr, fun ps ts st9 hpo hk9 => ?_⟩
      refine ⟨chs, rfl, by simp only [List.length_cons, List.length_nil]; decide, ?_⟩
      have K9 := hk8.trans hk9
      have ep9 := K9.ob p _ npa ep7
      have eq9 := K9.ob q _ nqa (K7.ob q _ nqa eq)
      have hlt : es.length < sizeLine := Nat.lt_of_le_of_lt (by omega : es.length ≤ 8) (by decide)
      refine ⟨es, ep9, hlt, ?_⟩
      refine hN _ _ ⟨es ++ [.tup [nm, .int (1 + r8), pairD ps ts, .tup chs]], _, _, _, rfl, ?_, Store.set_same, by rw [set_ne hq0.1]; exact eq9, by rw [List.length_append, el]; rfl, ?_⟩
      · exact (hk.trans (K7.trans K9)).bump hnp npa
      · intro i' d' hd'
        by_cases hi' : i' < es.length
        · rw [List.getElem?_append_left hi'] at hd'
          exact he i' d' hd'
        · have hi'' : i' = es.length := by
            have := (List.getElem?_eq_some_iff.mp hd').1
            rw [List.length_append, List.length_singleton] at this
            omega
          subst hi''
          rw [List.getElem?_append_right (Nat.le_refl _), Nat.sub_self] at hd'
          simp at hd'
          subst hd'
          rw [el]
          refine ⟨nm, hnm', 1 + r8, ps, ts, chs, rfl, by omega, by omega, hpo, by omega, by omega, hch⟩
  · rintro ρ st5 ⟨es, o4, o7, o8, rfl, hk, ep, eq, el, he⟩
    rw [Nat.zero_add, hdl] at el
    simp only [denSs, denS, denI, den, denP, denO, denEs, h1, List.getElem?_cons_zero]
    refine ⟨by decide, by decide, a, 5, rfl, by decide, by decide, hk.dr, fun r6 st6 h60 h61 hk6 => ?_⟩
    obtain ⟨m6, hm64, hf6⟩ : ∃ m6 : Nat, m6 ≤ 4 ∧ atI [D.int 0, .int 0, .int 1, .int 2, .int 4] r6 = some (.int m6) := by
      have : r6 = 0 ∨ r6 = 1 ∨ r6 = 2 ∨ r6 = 3 ∨ r6 = 4 := by omega
      rcases this with rfl | rfl | rfl | rfl | rfl
      · exact ⟨0, by decide, at0⟩
      · exact ⟨0, by decide, at1⟩
      · exact ⟨1, by decide, at2⟩
      · exact ⟨2, by decide, at3⟩
      · exact ⟨4, by decide, at_nat (i := 4) rfl⟩
    refine .inl ⟨_, r6, _, rfl, rfl, hf6, m6, rfl, ?_⟩
    simp only [slcL, lstOf]
    refine ⟨_, rfl, ?_⟩
    have ed' : ([.str "mice", .str "rain", .str "thief", .str "wind"] : List D) = MEDS := rfl
    rw [ed', cut_take]
    have hml : (MEDS.take m6).length = m6 := by rw [List.length_take]; show min m6 4 = _; omega
    simp only [items1]
    refine forL_inv (fun i ρ st' => ∃ ms o4, ρ = [some (.loc a), some (.int most), some (.tup fs), some (.int far), o4, some (.loc p), some (.loc q), o7, o8] ∧ Keep a st st' ∧ st' p = some (.lst es) ∧ st' q = some (.lst ms) ∧ ms.length = i ∧ Each (MedOk fs) MEDS ms) _ 0 _ _
      ⟨[], o4, rfl, hk.trans hk6, hk6.ob p _ npa ep, hk6.ob q _ nqa eq, rfl, fun i d h => by simp at h⟩ ?_ ?_
    · rintro i nm ρ st7 N hi ⟨ms, o4, rfl, hk7, ep7, eq7, el7, he7⟩ hN
      rw [Nat.zero_add] at el7 hN
      have hil : i < m6 := by have := (List.getElem?_eq_some_iff.mp hi).1; omega
      have hnm' : MEDS[i]? = some nm := by rw [List.getElem?_take] at hi; rw [if_pos hil] at hi; exact hi
      unfold b__law_world_2
      simp only [asg, denSs, denS, den, denEs, h2, List.getElem?_cons_zero, List.getElem?_cons_succ, List.set]
      refine ⟨q, ms, rfl, eq7, a, fs, 4, rfl, hfl, by decide, by decide, hk7.dr, fun ps ts st8 hpo hk8 => ?_⟩
      refine ⟨a, fs, 6, rfl, hfl, by decide, by decide, hk8.dr, fun ps' ts' st9 hpo' hk9 => ?_⟩
      have K9 := hk8.trans hk9
      have eq9 := K9.ob q _ nqa eq7
      have ep9 := K9.ob p _ npa ep7
      have hlt : ms.length < sizeLine := Nat.lt_of_le_of_lt (by omega : ms.length ≤ 8) (by decide)
      refine ⟨by simp only [List.length_cons, List.length_nil]; decide, ms, eq9, hlt, ?_⟩
      refine hN _ _ ⟨ms ++ [.tup [nm, pairD ps ts, pairD ps' ts']], _, rfl, (hk7.trans K9).bump hnq nqa, by rw [set_ne hq0.1.symm]; exact ep9, Store.set_same, by rw [List.length_append, el7]; rfl, ?_⟩
      intro i' d' hd'
      by_cases hi' : i' < ms.length
      · rw [List.getElem?_append_left hi'] at hd'
        exact he7 i' d' hd'
      · have hi'' : i' = ms.length := by
          have := (List.getElem?_eq_some_iff.mp hd').1
          rw [List.length_append, List.length_singleton] at this
          omega
        subst hi''
        rw [List.getElem?_append_right (Nat.le_refl _), Nat.sub_self] at hd'
        simp at hd'
        subst hd'
        rw [el7]
        exact ⟨nm, hnm', ps, ts, ps', ts', rfl, hpo, hpo'⟩
    · rintro ρ st7 ⟨ms, o4, rfl, hk7, ep7, eq7, el7, he7⟩
      rw [Nat.zero_add, hml] at el7
      have sp : seqOf st7 (.loc p) = some es := by show (match st7 p with | some (.lst xs) => some xs | _ => none) = _; rw [ep7]
      have sq : seqOf st7 (.loc q) = some ms := by show (match st7 q with | some (.lst xs) => some xs | _ => none) = _; rw [eq7]
      simp only [denSs, denS, den, denEs, List.getElem?_cons_zero, List.getElem?_cons_succ]
      refine ⟨es, sp, ms, sq, by simp only [List.length_cons, List.length_nil]; decide, hP _ _ ?_ hk7⟩
      exact ⟨n, es, ms, hn1, hnm, by omega, by rw [hfs], by omega, by omega, by omega, by rw [hfs]; exact he, by rw [hfs]; exact he7⟩
end
end G
/-! What is drawn: cases, things, changed things. -/
namespace G
open PySem PySem.Spec PyProof.Rows L2
section
variable {Γ : Ctx}
def caseD (w : D) (ps ts xs : List D) (sl me : Int) : D := .tup [w, pairD ps ts, .tup [.tup xs, .int sl, .int me]]
def CaseOk (most : Int) (c : D) : Prop := ∃ w ps ts xs sl me, c = caseD w ps ts xs sl me ∧ WorldOk most w ∧ PairOf (wFacts w) ps ts ∧ xs.Sublist (wFacts w) ∧ 0 ≤ sl ∧ sl < 3 ∧ 0 ≤ me ∧ me < 3
def sp__law_case : Spec := fun ds st P _ => ∃ a most, ds = [.loc a, .int most] ∧ 0 < most ∧ most ≤ 6 ∧ Dr st a ∧ ∀ c st', CaseOk most c → Keep a st st' → P c st'
theorem d__law_case (h1 : Γ.fn "_law_draw" = some sp__law_draw) (h2 : Γ.fn "_law_pair" = some sp__law_pair) (h3 : Γ.fn "_law_world" = some sp__law_world) (h4 : Γ.fn "_law_state" = some sp__law_state) : Does Γ 4 2 b__law_case sp__law_case := by
  rintro ds st P ⟨a, most, rfl, hm, hm6, hd, hP⟩
  refine ⟨rfl, ?_⟩
  simp only [b__law_case, denSs, denS, den, denEs, h1, h2, h3, h4, startE, List.map_cons, List.map_nil, List.cons_append, List.nil_append, List.getElem?_cons_zero, List.getElem?_cons_succ]
  refine ⟨a, most, rfl, hm, hm6, hd, fun w st1 hw hk1 => ?_⟩
  obtain ⟨n, es, ms, hn1, hnm, hn6, rfl, r1, r2, r3, r4, r5⟩ := id hw
  have hfl : (FACTS.take n).length ≤ 1000 := by rw [List.length_take]; exact Nat.le_trans (Nat.min_le_right _ _) (by decide)
  simp only [asg, List.set, List.getElem?_cons_zero, List.getElem?_cons_succ, List.length_cons, List.length_nil, List.replicate]
  refine ix_tupk at0 ⟨a, _, 4, rfl, hfl, by decide, by decide, hk1.dr, fun ps ts st2 hpo hk2 => ?_⟩
  refine ix_tupk at0 ⟨a, _, rfl, hfl, hk2.dr, fun xs st3 hxs hk3 => ?_⟩
  refine ⟨a, 3, rfl, by decide, by decide, hk3.dr, fun sl st4 s0 s1 hk4 => ?_⟩
  refine ⟨a, 3, rfl, by decide, by decide, hk4.dr, fun me st5 m0 m1 hk5 => ⟨by decide, by decide, ?_⟩⟩
  exact hP _ _ ⟨_, ps, ts, xs, sl, me, rfl, hw, hpo, hxs, s0, s1, m0, m1⟩ (hk1.trans (hk2.trans (hk3.trans (hk4.trans hk5))))
/-! things -/
def spT (n : Nat) : Spec := fun ds st P _ => ∃ a k, ds = [.loc a, .int (Nat.cast k)] ∧ k < n ∧ Dr st a ∧ ∀ d st', D.ok 60 (k + 2) d = true → Keep a st st' → P d st'
theorem ok_mkT {b n : Nat} {xs : List D} (hl : xs.length ≤ b) (h : ∀ x ∈ xs, D.ok b n x = true) : D.ok b (n + 1) (.tup xs) = true := by
  simp only [D.ok, Bool.and_eq_true, decide_eq_true_eq, oks_iff]; exact ⟨hl, h⟩
theorem ok_mkL {b n : Nat} {xs : List D} (hl : xs.length ≤ b) (h : ∀ x ∈ xs, D.ok b n x = true) : D.ok b (n + 1) (.lst xs) = true := by
  simp only [D.ok, Bool.and_eq_true, decide_eq_true_eq, oks_iff]; exact ⟨hl, h⟩
theorem ok_none {b n : Nat} {d : D} (h : d = .non ∨ (∃ t, d = .bl t) ∨ ∃ i, d = .int i) : D.ok b n d = true := by
  rcases h with rfl | ⟨t, rfl⟩ | ⟨i, rfl⟩ <;> (unfold D.ok; rfl)
theorem d__law_thing {n : Nat} (h1 : Γ.fn "_law_draw" = some sp__law_draw) (h2 : Γ.fn "_law_of" = some sp__law_of) (h3 : Γ.fn "_law_thing" = some (spT n)) : Does Γ 6 2 b__law_thing (spT (n + 1)) := by
  rintro ds st P ⟨a, k, rfl, hk, hd, hP⟩
  refine ⟨rfl, ?_⟩
  unfold b__law_thing
  rw [denSs, denS]
  simp only [den, denEs, h1, startE, List.map_cons, List.map_nil, List.cons_append, List.nil_append, List.getElem?_cons_zero, List.getElem?_cons_succ]
  refine ⟨a, 9, rfl, by decide, by decide, hd, fun way st1 w0 w1 hk1 => ?_⟩
  simp only [asg, List.set, List.length_cons, List.length_nil, List.replicate]
  refine cons_ife (decide (way < 6) || decide (k = 0)) (fun Q hQ => ?_) ?_
  · simp [den, denB]
    rw [ci_lt]
    cases z : decide (way < 6) with
    | true => simpa [z] using hQ
    | false =>
      simp only [z, Bool.false_or] at hQ ⊢
      simp
      rw [ci_eq]
      have : decide ((k : Int) = 0) = decide (k = 0) := by rw [Bool.eq_iff_iff]; simp
      rw [this]; exact hQ
  · cases z : (decide (way < 6) || decide (k = 0)) with
    | true =>
      simp only [if_true]
      simp only [denSs, denS, den, denP, denEs, h2, opR, asg, List.set, List.getElem?_cons_zero, List.getElem?_cons_succ]
      refine ⟨1, rfl, ⟨by decide, by decide, by decide⟩, by simp only [List.length_cons, List.length_nil]; decide, ?_⟩
      refine ⟨by decide, by decide, by decide, by decide, by simp only [List.length_cons, List.length_nil]; decide, by simp only [List.length_cons, List.length_nil]; decide, by simp only [List.length_cons, List.length_nil]; decide, by simp only [List.length_cons, List.length_nil]; decide, by simp only [List.length_cons, List.length_nil]; decide, by simp only [List.length_cons, List.length_nil]; decide, by simp only [List.length_cons, List.length_nil]; decide, by simp only [List.length_cons, List.length_nil]; decide, by simp only [List.length_cons, List.length_nil]; decide, ?_⟩
      refine ⟨_, _, rfl, rfl, by decide, a, _, _, rfl, .inr rfl, by decide, by decide, hk1.dr, fun d st2 hm hk2 => ?_⟩
      refine hP d st2 (D.ok.mono (Nat.le_refl 60) (n := 2) (by omega) (oks_iff.mp (?_ : D.oks 60 2 _ = true) d hm)) (hk1.trans hk2)
      decide +kernel
    | false =>
      simp only [Bool.or_eq_false_iff, decide_eq_false_iff_not] at z
      obtain ⟨k', rfl⟩ : ∃ k', k = k' + 1 := ⟨k - 1, by omega⟩
      simp only [Bool.false_eq_true, if_false]
      simp only [denSs, denS, den, denP, denI, denEs, h1, h3, opR, List.getElem?_cons_zero, List.getElem?_cons_succ]
      refine ⟨a, 4, rfl, by decide, by decide, hk1.dr, fun m st2 m0 m1 hk2 => ⟨m, rfl, ⟨by omega, by omega⟩, ?_⟩⟩
      have hrl : (rangeL 0 m.toNat).length = m.toNat := by simp [rangeL]
      refine turns_inv (fun i acc st' => acc.length = i ∧ Keep a st2 st' ∧ ∀ x ∈ acc, D.ok 60 (k' + 2) x = true) _ 0 st2 [] (Nat.zero_le _) (by rw [hrl]; exact sz1000 (by omega)) ⟨rfl, Keep.refl hk2.dr, fun x hx => by cases hx⟩ ?_ ?_
      · rintro j d st7 acc kk hj ⟨hal, hk7, hx7⟩ g1 g2
        simp only [asg, wipeE, List.set, List.getElem?_cons_zero, List.getElem?_cons_succ]
        refine ⟨a, k', by rw [show ((k' + 1 : Nat) : Int) - 1 = (k' : Int) by omega], by omega, hk7.dr, fun x st8 hx hk8 => ?_⟩
        refine g1 _ _ ⟨by rw [List.length_append, hal]; rfl, hk7.trans hk8, fun y hy => ?_⟩
        rcases List.mem_append.mp hy with hy | hy
        · exact hx7 y hy
        · rw [List.mem_singleton.mp hy]; exact hx
      · rintro xs st7 ⟨hcl, hk7, hx⟩
        rw [Nat.zero_add, hrl] at hcl
        have K7 := hk1.trans (hk2.trans hk7)
        have hT : D.ok 60 (k' + 1 + 2) (.tup xs) = true := ok_mkT (by omega) hx
        have hL : D.ok 60 (k' + 1 + 2) (.lst xs) = true := ok_mkL (by omega) hx
        simp only [asg, denSs, denS, den, denP, denEs, opR, List.set, List.getElem?_cons_zero, List.getElem?_cons_succ]
        refine ⟨xs, rfl, xs, rfl, by simp only [List.length_cons, List.length_nil]; decide, ?_⟩
        have : way = 6 ∨ way = 7 ∨ way = 8 := by omega
        rcases this with rfl | rfl | rfl
        · exact .inl ⟨_, _, _, rfl, rfl, at0, hP _ _ hL K7⟩
        · exact .inl ⟨_, _, _, rfl, rfl, at1, hP _ _ hT K7⟩
        · exact .inl ⟨_, _, _, rfl, rfl, at2, hP _ _ hT K7⟩
/-! changed things -/
def isSeq (d : D) : Prop := ∃ xs, d = .tup xs ∨ d = .lst xs
def spO (n : Nat) : Spec := fun ds st P _ => ∃ a x xs, ∃ k b m : Nat, ds = [.loc a, x, .int (Nat.cast k)] ∧ k < n ∧ (x = .tup xs ∨ x = .lst xs) ∧ D.ok b m x = true ∧ 60 ≤ b ∧ b ≤ 900 ∧ m ≤ 40 ∧ Dr st a ∧ ∀ y st', D.ok (b + 1) (m + 6) y = true → isSeq y → Keep a st st' → P y st'
theorem fzs_refl {st st' : Store} : ∀ xs : List D, Fzs st st' xs xs
  | [] => .nil
  | x :: xs => .cons (.refl x) (fzs_refl xs)
theorem Keep.drop {a c : Addr} {st st' : Store} (h : Keep a st st') (hn : st c = none) (hc : c ≠ a) : Keep a st (fun b => if b = c then none else st' b) := by
  obtain ⟨u, v, e⟩ := h.dr
  refine ⟨⟨u, v, by simp only [hc.symm, if_false]; exact e⟩, fun b o hb e' => ?_⟩
  have : b ≠ c := fun z => by rw [z, hn] at e'; cases e'
  simp only [this, if_false]
  exact h.ob b o hb e'
/-- bits is handed out, as a list or as a tuple -/
theorem fin_ret {a c : Addr} {st st' : Store} {x : D} {xs zs : List D} {b m : Nat} {P : Post} {ρ : Env} (h1 : ρ[1]? = some (some x)) (h3 : ρ[3]? = some (some (.loc c))) (hx : x = .tup xs ∨ x = .lst xs) (ok : OK x) (hk : Keep a st st') (hn : st c = none) (hc : c ≠ a) (e : st' c = some (.lst zs)) (hl : zs.length ≤ b) (hz : ∀ z ∈ zs, D.ok b m z = true)
    (hP : ∀ y st', D.ok b (m + 1) y = true → isSeq y → Keep a st st' → P y st') :
    den Γ X0 (.ite (.isi (.var 1) [.list]) (.frz (.var 3)) (.bi .tuple (.var 3))) ρ st' P ∧ den Γ X0 (.ite (.isi (.var 1) [.list]) (.bi .tuple (.var 3)) (.frz (.var 3))) ρ st' P := by
  have sq : seqOf st' (.loc c) = some zs := by show (match st' c with | some (.lst xs) => some xs | _ => none) = _; rw [e]
  have hT := hP (.tup zs) st' (ok_mkT hl hz) ⟨_, .inl rfl⟩ hk
  have hL := hP (.lst zs) (fun b => if b = c then none else st' b) (ok_mkL hl hz) ⟨_, .inr rfl⟩ (hk.drop hn hc)
  have frz : ∃ st2 y, (∀ a o, st2 a = some o → st' a = some o) ∧ Fz st' st2 (.loc c) y ∧ P y st2 := by
    refine ⟨_, _, fun b o z => ?_, .loc e (by simp) (fzs_refl zs), hL⟩
    split at z
    · cases z
    · exact z
  rcases hx with rfl | rfl
  · constructor
    · simp only [den, h1, h3, isTys_ok ok (show List.all [Ty.list] (fun t => !clsB t) = true from rfl)]
      exact ⟨false, rfl, zs, sq, hT⟩
    · simp only [den, h1, h3, isTys_ok ok (show List.all [Ty.list] (fun t => !clsB t) = true from rfl)]
      exact ⟨false, rfl, frz⟩
  · constructor
    · simp only [den, h1, h3, isTys_ok ok (show List.all [Ty.list] (fun t => !clsB t) = true from rfl)]
      exact ⟨true, rfl, frz⟩
    · simp only [den, h1, h3, isTys_ok ok (show List.all [Ty.list] (fun t => !clsB t) = true from rfl)]
      exact ⟨true, rfl, zs, sq, hT⟩
def b_oth_fin : Ss := .cons (.ret (.ite (.isi (.var 1) [.list]) (.frz (.var 3)) (.bi .tuple (.var 3)))) .nil
def b_oth_chain : S := (.ife (.cmp .Eq (.var 5) (.int 0)) (.cons (.exp (.popAt (.var 3) (.var 4))) .nil) (.cons (.ife (.cmp .Eq (.var 5) (.int 1)) (.cons (.exp (.ins (.var 3) (.var 4) (.idx (.var 3) (.var 4)))) .nil) (.cons (.ife (.cmp .Eq (.var 5) (.int 2)) (.cons (.slst (.var 3) (.var 4) (.bin .Add (.var 4) (.int 2)) (.fr (.rev (.fr (.slc (.var 3) (.at (.var 4)) (.at (.bin .Add (.var 4) (.int 2)))))))) .nil) (.cons (.ife (.cmp .Eq (.var 5) (.int 3)) (.cons (.sto (.var 3) (.var 4) (.call "_law_thing" (.cons (.var 0) (.cons (.int 2) .nil)))) .nil) (.cons (.ife (.bop true (.cons (.cmp .Eq (.var 5) (.int 4)) (.cons (.isi (.idx (.var 3) (.var 4)) [.str]) .nil))) (.cons (.asg (.var 6) (.idx (.var 3) (.var 4))) (.cons (.sto (.var 3) (.var 4) (.call "_law_of" (.cons (.var 0) (.cons (.fr (.disp (.cons (.bin .Add (.var 6) (.str "a")) (.cons (.slc (.var 6) (.at (.int 1)) .no) (.cons (.upper (.var 6)) (.cons (.str "") (.cons .non (.cons (.str "dry") (.cons (.str "zz") .nil))))))))) .nil)))) .nil)) (.cons (.ife (.bop true (.cons (.cmp .Lt (.var 5) (.int 6)) (.cons (.isi (.idx (.var 3) (.var 4)) [.int]) .nil))) (.cons (.asg (.var 7) (.idx (.var 3) (.var 4))) (.cons (.sto (.var 3) (.var 4) (.call "_law_of" (.cons (.var 0) (.cons (.fr (.disp (.cons (.bin .Add (.var 7) (.int 1)) (.cons (.bin .Sub (.var 7) (.int 1)) (.cons (.bin .Sub (.int 0) (.var 7)) (.cons (.bl true) (.cons (.bl false) (.cons .non (.cons (.mx false (.bin .Mult (.int 1000) (.var 7)) (.bin .Pow (.int 10) (.int 39))) .nil))))))))) .nil)))) .nil)) (.cons (.ife (.bop true (.cons (.cmp .Eq (.var 5) (.int 6)) (.cons (.isi (.idx (.var 3) (.var 4)) [.tuple]) .nil))) (.cons (.sto (.var 3) (.var 4) (.fr (.list (.idx (.var 3) (.var 4))))) .nil) (.cons (.ret (.ite (.isi (.var 1) [.list]) (.bi .tuple (.var 3)) (.frz (.var 3)))) .nil)) .nil)) .nil)) .nil)) .nil)) .nil)) .nil))
theorem oth_split : b__law_otherwise = .cons (.asg (.var 3) (.bx (.list (.var 1)))) (.cons (.ife (.cmp .Eq (.var 3) (.fr (.disp .nil))) (.cons (.ret (.tup (.cons (.call "_law_thing" (.cons (.var 0) (.cons (.int 1) .nil))) .nil))) .nil) .nil) (.cons (.asg (.var 4) (.call "_law_draw" (.cons (.var 0) (.cons (.bi .len (.var 3)) .nil)))) (.cons (.ife (.bop true (.cons (.isi (.idx (.var 3) (.var 4)) [.tuple, .list]) (.cons (.cmp .Gt (.var 2) (.int 0)) (.cons (.cmp .Gt (.call "_law_draw" (.cons (.var 0) (.cons (.int 5) .nil))) (.int 0)) .nil)))) (.cons (.sto (.var 3) (.var 4) (.call "_law_otherwise" (.cons (.var 0) (.cons (.idx (.var 3) (.var 4)) (.cons (.bin .Sub (.var 2) (.int 1)) .nil))))) b_oth_fin) .nil) (.cons (.asg (.var 5) (.call "_law_draw" (.cons (.var 0) (.cons (.int 8) .nil)))) (.cons b_oth_chain b_oth_fin))))) := rfl
/-- from a list, one spot changed -/
theorem set_ok {b m : Nat} {xs : List D} {j : Nat} {y : D} (h : ∀ x ∈ xs, D.ok b m x = true) (hy : D.ok b m y = true) : ∀ x ∈ xs.set j y, D.ok b m x = true := fun x hx => by
  rcases List.mem_or_eq_of_mem_set hx with hx | rfl
  · exact h x hx
  · exact hy
theorem ix_n {n : Nat} {j : Nat} (h : j < n) : ixN n (j : Int) = some j := by
  unfold ixN
  rw [if_pos (by omega), if_pos (by omega)]
  simp
theorem sto_lst {xs : List D} {j : Nat} {d : D} {k : Ob → Prop} (h : j < xs.length) (q : k (.lst (xs.set j d))) : stoR (.lst xs) (.int (j : Int)) d k := ⟨j, j, rfl, ix_n h, q⟩
theorem ascii_app {x y : Str} (hx : ascii x = true) (hy : ascii y = true) : ascii (x ++ y) = true := by
  unfold ascii at *
  show (x.cps ++ y.cps).all _ = true
  rw [Array.all_append, hx, hy]; rfl
theorem ascii_cut {x : Str} {lo hi : Option Int} (hx : ascii x = true) : ascii (cutS x lo hi) = true := by
  unfold ascii at *
  rw [Array.all_eq_true'] at *
  intro c hc
  apply hx
  unfold cutS at hc
  have hc := List.mem_of_mem_drop (List.mem_of_mem_take (by simpa using hc : c ∈ ((x.cps.toList.drop _).take _)))
  simpa using hc
theorem upper_ok {x : Str} (hx : ascii x = true) : ascii (Txt.upper x) = true ∧ (Txt.upper x).length = x.length := by
  have e : x = SX.S x.cps.toList := by cases x; rfl
  have ha : x.cps.toList.all (· < 128) = true := by
    unfold ascii at hx
    rw [Array.all_eq_true'] at hx
    rw [List.all_eq_true]
    intro c hc
    exact hx c (by simpa using hc)
  have eu : Txt.upper x = SX.S (x.cps.toList.map PyProof.Rows.up1) := by
    conv => lhs; rw [e]
    exact SX.upper_S ha
  rw [eu]
  refine ⟨?_, ?_⟩
  · unfold ascii
    rw [Array.all_eq_true']
    intro c hc
    have hc : c ∈ x.cps.toList.map PyProof.Rows.up1 := by simpa [SX.S] using hc
    obtain ⟨d, hd, rfl⟩ := List.mem_map.mp hc
    have := List.all_eq_true.mp ha d hd
    simp only [decide_eq_true_eq] at this ⊢
    unfold PyProof.Rows.up1
    split <;> omega
  · show (x.cps.toList.map PyProof.Rows.up1).toArray.size = x.cps.size
    simp
theorem wtest {ρ : Env} {st : Store} {way i : Nat} (h : ρ[5]? = some (some (.int (way : Int)))) : Ev Γ ρ st (.cmp .Eq (.var 5) (.int (i : Int))) (.bl (decide (way = i))) := fun Q hQ => by
  simp only [den, h, ci_eq]
  have : decide ((way : Int) = (i : Int)) = decide (way = i) := by rw [Bool.eq_iff_iff]; simp; omega
  rw [this]; exact hQ
/-- the ways of changing at one spot -/
theorem oth_chain (h1 : Γ.fn "_law_draw" = some sp__law_draw) (h2 : Γ.fn "_law_of" = some sp__law_of) (h3 : Γ.fn "_law_thing" = some (spT 4)) {a c : Addr} {st st' : Store} {x : D} {xs zs : List D} {b m way j : Nat} {P : Post} {o2 o6 o7 : Option D}
    (hx : x = .tup xs ∨ x = .lst xs) (ok : OK x) (hk : Keep a st st') (hn : st c = none) (hc : c ≠ a) (e : st' c = some (.lst zs)) (hj : j < zs.length) (hl : zs.length ≤ b) (hb : 60 ≤ b) (hb2 : b ≤ 900) (hm : 4 ≤ m) (hm2 : m ≤ 50) (hz : ∀ z ∈ zs, D.ok b m z = true)
    (hP : ∀ y st', D.ok (b + 1) (m + 1) y = true → isSeq y → Keep a st st' → P y st') :
    denS Γ X0 b_oth_chain { nx := fun ρ1 st1 => denSs Γ X0 b_oth_fin { nx := fun _ st => P .non st, rt := P } ρ1 st1, rt := P } [some (.loc a), some x, o2, some (.loc c), some (.int (j : Int)), some (.int (way : Int)), o6, o7] st' := by
  have hz' : ∀ z ∈ zs, D.ok (b + 1) m z = true := fun z h => D.ok.mono (by omega) (Nat.le_refl _) (hz z h)
  have fin : ∀ (ws : List D) (s2 : Store) (o6 o7 : Option D), Keep a st s2 → s2 c = some (.lst ws) → ws.length ≤ b + 1 → (∀ z ∈ ws, D.ok (b + 1) m z = true) → denSs Γ X0 b_oth_fin { nx := fun _ st => P .non st, rt := P } [some (.loc a), some x, o2, some (.loc c), some (.int (j : Int)), some (.int (way : Int)), o6, o7] s2 := fun ws s2 o6 o7 k2 e2 l2 z2 => by
    unfold b_oth_fin
    rw [denSs, denS]
    exact (fin_ret (Γ := Γ) rfl rfl hx ok k2 hn hc e2 l2 z2 hP).1
  have at' : ∀ {s2 : Store}, s2 c = some (.lst zs) → ∀ {k : D → Prop}, k zs[j] → idxR s2 (.loc c) (.int (j : Int)) k := fun e2 k q => ix_loc e2 (at_nat (List.getElem?_eq_getElem hj)) q
  have okj := hz zs[j] (List.getElem_mem hj)
  have okJ : OK zs[j] := ok_le okj (by omega) (by omega)
  unfold b_oth_chain
  refine ife_ev (decide (way = 0)) (wtest (i := 0) rfl) ?_
  cases w0 : decide (way = 0) with
  | true =>
    simp only [if_true, denSs, denS, den, List.getElem?_cons_zero, List.getElem?_cons_succ]
    refine ⟨c, zs, rfl, e, zs, j, zs[j], e, rfl, by omega, List.getElem?_eq_getElem hj, ?_⟩
    exact fin _ _ _ _ (hk.bump hn hc) Store.set_same (by rw [List.length_eraseIdx]; split <;> omega) fun z h => hz' z (List.mem_of_mem_eraseIdx h)
  | false =>
  simp only [Bool.false_eq_true, if_false]
  refine cons_ife (decide (way = 1)) (wtest (i := 1) rfl) ?_
  cases w1 : decide (way = 1) with
  | true =>
    simp only [if_true, denSs, denS, den, List.getElem?_cons_zero, List.getElem?_cons_succ]
    refine ⟨c, zs, rfl, e, at' e ⟨zs, j, e, rfl, by omega, by exact Nat.lt_of_le_of_lt (by omega : zs.length ≤ 900) (by decide), ?_⟩⟩
    refine fin _ _ _ _ (hk.bump hn hc) Store.set_same ?_ fun z h => ?_
    · rw [List.length_append, List.length_append, List.length_take, List.length_drop, List.length_singleton]; omega
    · rcases List.mem_append.mp h with h | h
      · rcases List.mem_append.mp h with h | h
        · exact hz' z (List.mem_of_mem_take h)
        · rw [List.mem_singleton.mp h]; exact hz' _ (List.getElem_mem hj)
      · exact hz' z (List.mem_of_mem_drop h)
  | false =>
  simp only [Bool.false_eq_true, if_false]
  rw [denSs]
  refine cons_ife (decide (way = 2)) (wtest (i := 2) rfl) ?_
  have sz900 : ∀ {n : Nat}, n ≤ 2000 → n < sizeLine := fun h => Nat.lt_of_le_of_lt h (by decide)
  cases w2 : decide (way = 2) with
  | true =>
    simp only [if_true, denSs, denS, den, denP, denO, opR, slcL, List.getElem?_cons_zero, List.getElem?_cons_succ]
    have lc : lstOf st' (.loc c) = some zs := by show (match st' c with | some (.lst xs) => some xs | _ => none) = _; rw [e]
    refine ⟨_, rfl, _, rfl, zs, lc, _, rfl, c, zs, _, j, j + 2, rfl, e, rfl, rfl, by rw [show ((j + 2 : Nat) : Int) = (j : Int) + 2 by omega], by omega, by omega, ?_, ?_⟩
    · rw [List.length_reverse]
      have : (cutD zs (some (j : Int)) (some ((j : Int) + 2))).length ≤ zs.length := by
        unfold cutD; rw [List.length_take, List.length_drop]; omega
      exact sz900 (by omega)
    · refine fin _ _ _ _ (hk.bump hn hc) Store.set_same ?_ fun z h => ?_
      · have : (cutD zs (some (j : Int)) (some ((j : Int) + 2))).length ≤ min (j + 2) zs.length - j := by
          unfold cutD
          rw [show ((j : Int) + 2) = ((j + 2 : Nat) : Int) by omega, HT.sIx_nat, HT.sIx_nat, List.length_take, List.length_drop]
          omega
        rw [List.length_append, List.length_append, List.length_take, List.length_drop, List.length_reverse]
        omega
      · rcases List.mem_append.mp h with h | h
        · rcases List.mem_append.mp h with h | h
          · exact hz' z (List.mem_of_mem_take h)
          · have h := List.mem_reverse.mp h
            unfold cutD at h
            exact hz' z (List.mem_of_mem_drop (List.mem_of_mem_take h))
        · exact hz' z (List.mem_of_mem_drop h)
  | false =>
  simp only [Bool.false_eq_true, if_false]
  rw [denSs]
  refine cons_ife (decide (way = 3)) (wtest (i := 3) rfl) ?_
  -- a new thing at the spot
  have put : ∀ (y : D) (s2 : Store) (o6 o7 : Option D), Keep a st' s2 → D.ok (b + 1) m y = true → stoR (.lst zs) (.int (j : Int)) y fun ob' => denSs Γ X0 b_oth_fin { nx := fun _ st => P .non st, rt := P } [some (.loc a), some x, o2, some (.loc c), some (.int (j : Int)), some (.int (way : Int)), o6, o7] (s2.set c ob') := fun y s2 o6 o7 k2 hy =>
    sto_lst hj (fin _ _ _ _ ((hk.trans k2).bump hn hc) Store.set_same (by rw [List.length_set]; omega) (set_ok hz' hy))
  cases w3 : decide (way = 3) with
  | true =>
    simp only [if_true, denSs, denS, den, denEs, h3, List.getElem?_cons_zero, List.getElem?_cons_succ]
    refine ⟨a, 2, rfl, by decide, hk.dr, fun y s2 hy k2 => ⟨c, _, rfl, k2.ob c _ hc e, put y s2 _ _ k2 (D.ok.mono (by omega) hm hy)⟩⟩
  | false =>
  simp only [Bool.false_eq_true, if_false]
  rw [denSs]
  refine cons_ife (decide (way = 4) && ty1 .str zs[j]) (fun Q hQ => ?_) ?_
  · rw [den, denB]
    refine wtest (i := 4) rfl _ ⟨_, rfl, ?_⟩
    cases w4 : decide (way = 4) with
    | false => simpa [w4] using hQ
    | true =>
      simp only [if_true, denB, den, List.getElem?_cons_zero, List.getElem?_cons_succ]
      refine at' e ?_
      rw [isTys_ok okJ (by rfl)]
      simpa [w4] using hQ
  cases w4 : (decide (way = 4) && ty1 .str zs[j]) with
  | true =>
    simp only [Bool.and_eq_true] at w4
    obtain ⟨z, hz4⟩ := ty_str.mp w4.2
    rw [hz4] at okj
    have hzz : ascii z = true ∧ z.length ≤ b := by simpa [D.ok] using okj
    simp only [if_true, denSs, denS, den, denP, denO, denEs, h2, opR, slcR, asg, List.set, List.getElem?_cons_zero, List.getElem?_cons_succ]
    refine at' e ?_
    rw [hz4]
    have hza : ("a" : Str).length = 1 := by decide +kernel
    refine ⟨Nat.le_of_lt (sz900 (by rw [hza]; omega)), 1, rfl, Nat.le_of_lt (sz900 (by omega)), z, rfl, by omega, by simp only [List.length_cons, List.length_nil]; decide, ?_⟩
    refine ⟨a, _, _, rfl, .inr rfl, by simp, by simp, hk.dr, fun y s2 hy k2 => ⟨c, _, rfl, k2.ob c _ hc e, put y s2 _ _ k2 ?_⟩⟩
    have hu := upper_ok hzz.1
    have hlit : ∀ w : Str, ascii w = true → w.length ≤ 60 → D.ok (b + 1) m (.str w) = true := fun w h1 h2 => by unfold D.ok; simp only [Bool.and_eq_true, decide_eq_true_eq]; exact ⟨h1, by omega⟩
    simp only [List.mem_cons, List.not_mem_nil, or_false] at hy
    rcases hy with rfl | rfl | rfl | rfl | rfl | rfl | rfl
    · unfold D.ok; simp only [Bool.and_eq_true, decide_eq_true_eq]
      refine ⟨ascii_app hzz.1 (by decide +kernel), ?_⟩
      have : (z ++ ("a" : Str)).length = z.length + 1 := by
        show (z.cps ++ ("a" : Str).cps).size = z.cps.size + 1
        rw [Array.size_append]; rfl
      omega
    · unfold D.ok; simp only [Bool.and_eq_true, decide_eq_true_eq]
      exact ⟨ascii_cut hzz.1, by have := cutS_length z (some 1) none; omega⟩
    · unfold D.ok; simp only [Bool.and_eq_true, decide_eq_true_eq]
      exact ⟨hu.1, by omega⟩
    · exact hlit _ (by decide +kernel) (by decide +kernel)
    · unfold D.ok; rfl
    · exact hlit _ (by decide +kernel) (by decide +kernel)
    · exact hlit _ (by decide +kernel) (by decide +kernel)
  | false =>
  simp only [Bool.false_eq_true, if_false]
  rw [denSs]
  refine cons_ife (decide (way < 6) && ty1 .int zs[j]) (fun Q hQ => ?_) ?_
  · rw [den, denB]
    simp only [den, denB, ci_lt, List.getElem?_cons_zero, List.getElem?_cons_succ]
    have ew : decide ((way : Int) < 6) = decide (way < 6) := by rw [Bool.eq_iff_iff]; simp; omega
    rw [ew]
    refine ⟨_, rfl, ?_⟩
    cases w5 : decide (way < 6) with
    | false => simpa [w5] using hQ
    | true =>
      simp only [if_true]
      refine at' e ?_
      rw [isTys_ok okJ (by rfl)]
      simpa [w5] using hQ
  cases w5 : (decide (way < 6) && ty1 .int zs[j]) with
  | true =>
    simp only [Bool.and_eq_true] at w5
    have hpow : CPow 10 39 := ⟨by decide, by decide, by decide⟩
    rcases ty_int.mp w5.2 with ⟨i, hi⟩ | ⟨t, ht⟩
    · simp only [if_true, denSs, denS, den, denP, denO, denEs, h2, asg, List.set, List.getElem?_cons_zero, List.getElem?_cons_succ]
      refine at' e ?_
      rw [hi]
      simp only [opR]
      refine ⟨.inl (.inl ⟨by decide, by decide⟩), hpow, _, _, rfl, rfl, by simp only [List.length_cons, List.length_nil]; decide, ?_⟩
      refine ⟨a, _, _, rfl, .inr rfl, by simp, by simp, hk.dr, fun y s2 hy k2 => ⟨c, _, rfl, k2.ob c _ hc e, put y s2 _ _ k2 ?_⟩⟩
      simp only [List.mem_cons, List.not_mem_nil, or_false] at hy
      apply ok_none
      rcases hy with rfl | rfl | rfl | rfl | rfl | rfl | rfl
      · exact .inr (.inr ⟨_, rfl⟩)
      · exact .inr (.inr ⟨_, rfl⟩)
      · exact .inr (.inr ⟨_, rfl⟩)
      · exact .inr (.inl ⟨_, rfl⟩)
      · exact .inr (.inl ⟨_, rfl⟩)
      · exact .inl rfl
      · exact .inr (.inr ⟨_, rfl⟩)
    · simp only [if_true, denSs, denS, den, denP, denO, denEs, h2, asg, List.set, List.getElem?_cons_zero, List.getElem?_cons_succ]
      refine at' e ?_
      rw [ht]
      simp only [opR]
      refine ⟨hpow, _, _, rfl, rfl, by simp only [List.length_cons, List.length_nil]; decide, ?_⟩
      refine ⟨a, _, _, rfl, .inr rfl, by simp, by simp, hk.dr, fun y s2 hy k2 => ⟨c, _, rfl, k2.ob c _ hc e, put y s2 _ _ k2 ?_⟩⟩
      simp only [List.mem_cons, List.not_mem_nil, or_false] at hy
      apply ok_none
      rcases hy with rfl | rfl | rfl | rfl | rfl | rfl | rfl
      · exact .inr (.inr ⟨_, rfl⟩)
      · exact .inr (.inr ⟨_, rfl⟩)
      · exact .inr (.inr ⟨_, rfl⟩)
      · exact .inr (.inl ⟨_, rfl⟩)
      · exact .inr (.inl ⟨_, rfl⟩)
      · exact .inl rfl
      · exact .inr (.inr ⟨_, rfl⟩)
  | false =>
  simp only [Bool.false_eq_true, if_false]
  rw [denSs]
  refine cons_ife (decide (way = 6) && ty1 .tuple zs[j]) (fun Q hQ => ?_) ?_
  · rw [den, denB]
    refine wtest (i := 6) rfl _ ⟨_, rfl, ?_⟩
    cases w4 : decide (way = 6) with
    | false => simpa [w4] using hQ
    | true =>
      simp only [if_true, denB, den, List.getElem?_cons_zero, List.getElem?_cons_succ]
      refine at' e ?_
      rw [isTys_ok okJ (by rfl)]
      simpa [w4] using hQ
  cases w6 : (decide (way = 6) && ty1 .tuple zs[j]) with
  | true =>
    simp only [Bool.and_eq_true] at w6
    obtain ⟨ys, hys⟩ := ty_tup.mp w6.2
    rw [hys] at okj
    simp only [if_true, denSs, denS, den, denP, List.getElem?_cons_zero, List.getElem?_cons_succ]
    refine at' e ?_
    rw [hys]
    refine ⟨ys, rfl, c, _, rfl, e, put _ _ _ _ (Keep.refl hk.dr) ?_⟩
    have := hz' zs[j] (List.getElem_mem hj)
    rw [hys] at this
    unfold D.ok at this ⊢
    exact this
  | false =>
    simp only [Bool.false_eq_true, if_false]
    rw [denSs, denS]
    exact (fin_ret (Γ := Γ) rfl rfl hx ok hk hn hc e (by omega : zs.length ≤ b + 1) hz' hP).2
theorem d__law_otherwise {n : Nat} (h1 : Γ.fn "_law_draw" = some sp__law_draw) (h2 : Γ.fn "_law_of" = some sp__law_of) (h3 : Γ.fn "_law_thing" = some (spT 4)) (h4 : Γ.fn "_law_otherwise" = some (spO n)) : Does Γ 8 3 b__law_otherwise (spO (n + 1)) := by
  rintro ds st P ⟨a, x, xs, k, b, m, rfl, hk, hx, okx, hb, hb2, hm, hd, hP⟩
  refine ⟨rfl, ?_⟩
  have OKx : OK x := ok_le okx (by omega) (by omega)
  obtain ⟨m, rfl, hl, hz⟩ : ∃ m', m = m' + 1 ∧ xs.length ≤ b ∧ ∀ z ∈ xs, D.ok b m' z = true := by
    rcases hx with rfl | rfl
    · obtain ⟨m', e, h, h'⟩ := ok_tup okx; exact ⟨m', by omega, h, h'⟩
    · obtain ⟨m', e, h, h'⟩ := ok_lst okx; exact ⟨m', by omega, h, h'⟩
  rw [oth_split, denSs, denS]
  simp only [den, denP, startE, List.map_cons, List.map_nil, List.cons_append, List.nil_append, List.getElem?_cons_zero, List.getElem?_cons_succ, List.length_cons, List.length_nil]
  refine ⟨xs, seq_fr hx, fun c hc => ?_⟩
  obtain ⟨u0, v0, ea⟩ := hd
  have hca : c ≠ a := fun z => by rw [z, ea] at hc; cases hc
  have k1 : Keep a st (st.set c (.lst xs)) := (Keep.refl ⟨u0, v0, ea⟩).bump hc hca
  have e1 : (st.set c (.lst xs)) c = some (.lst xs) := Store.set_same
  generalize st.set c (.lst xs) = st1 at k1 e1 ⊢
  simp only [asg, List.set, List.replicate]
  refine cons_ife xs.isEmpty (fun Q hQ => ?_) ?_
  · simp only [den, denP, denEs, List.getElem?_cons_zero, List.getElem?_cons_succ]
    refine ⟨by decide, ?_⟩
    have er : rsv st1 (.loc c) = .lst xs := by show (match st1 c with | some (.lst xs) => D.lst xs | _ => .loc c) = _; rw [e1]
    refine ⟨by rw [er]; exact D.ok.dat (n := m + 1) (by omega) (ok_mkL hl hz), by rfl, ?_⟩
    rw [er]
    show Q (.bl ((D.lst xs).eqv (.lst []))) st1
    rw [eqv_nil]; exact hQ
  cases hem : xs.isEmpty with
  | true =>
    simp only [if_true, denSs, denS, den, denEs, h3, List.getElem?_cons_zero]
    refine ⟨a, 1, rfl, by decide, k1.dr, fun y s2 hy k2 => ⟨by show 1 ≤ sizeLine; decide, ?_⟩⟩
    refine hP _ _ (ok_mkT (by show 1 ≤ b + 1; omega) fun z hz => ?_) ⟨_, .inl rfl⟩ (k1.trans k2)
    rw [List.mem_singleton.mp hz]
    exact D.ok.mono (by omega) (by omega) hy
  | false =>
  have hne : 0 < xs.length := by
    rcases xs with _ | ⟨z, zs⟩
    · cases hem
    · simp
  simp only [Bool.false_eq_true, if_false]
  rw [denSs]
  dsimp only
  rw [denSs, denS]
  simp only [den, denEs, h1, List.getElem?_cons_zero, List.getElem?_cons_succ]
  have sq1 : seqOf st1 (.loc c) = some xs := by show (match st1 c with | some (.lst xs) => some xs | _ => none) = _; rw [e1]
  refine .inl ⟨xs, sq1, a, xs.length, rfl, by omega, by omega, k1.dr, fun r st2 r0 r1 k2 => ?_⟩
  obtain ⟨j, rfl⟩ := Int.eq_ofNat_of_zero_le r0
  have hj : j < xs.length := by omega
  have K2 := k1.trans k2
  have e2 := k2.ob c _ hca e1
  simp only [asg, List.set]
  -- what follows if nothing within is changed
  have rest : ∀ (s3 : Store), Keep a st2 s3 → denSs Γ X0 (.cons (.asg (.var 5) (.call "_law_draw" (.cons (.var 0) (.cons (.int 8) .nil)))) (.cons b_oth_chain b_oth_fin)) { nx := fun _ st => P .non st, rt := P } [some (.loc a), some x, some (.int (k : Int)), some (.loc c), some (.int (j : Int)), none, none, none] s3 := by
    intro s3 k3
    rw [denSs, denS]
    simp only [den, denEs, h1, List.getElem?_cons_zero]
    refine ⟨a, 8, rfl, by decide, by decide, k3.dr, fun way s4 w0 w1 k4 => ?_⟩
    obtain ⟨way, rfl⟩ := Int.eq_ofNat_of_zero_le w0
    simp only [asg, List.set]
    rw [denSs]
    exact oth_chain (m := m + 4) h1 h2 h3 hx OKx (K2.trans (k3.trans k4)) hc hca (k4.ob c _ hca (k3.ob c _ hca e2)) hj hl hb hb2 (by omega) (by omega) (fun z h => D.ok.mono (Nat.le_refl _) (by omega) (hz z h)) fun y s5 hy hs k5 => hP y s5 (D.ok.mono (Nat.le_refl _) (by omega) hy) hs k5
  have okj := hz xs[j] (List.getElem_mem hj)
  have okJ : OK xs[j] := ok_le okj (by omega) (by omega)
  have at' : ∀ {s2 : Store}, s2 c = some (.lst xs) → ∀ {k : D → Prop}, k xs[j] → idxR s2 (.loc c) (.int (j : Int)) k := fun e2 k q => ix_loc e2 (at_nat (List.getElem?_eq_getElem hj)) q
  rw [denSs, denS]
  simp only [den, denB, List.getElem?_cons_zero, List.getElem?_cons_succ]
  refine at' e2 ?_
  rw [isTys_ok okJ (by rfl)]
  refine ⟨_, rfl, ?_⟩
  cases hs : ([Ty.tuple, Ty.list].any fun t => ty1 t xs[j]) with
  | false =>
    simp only [Bool.false_eq_true, if_false]
    refine ⟨_, rfl, ?_⟩
    simp only [Bool.false_eq_true, if_false, denSs]
    exact rest st2 (Keep.refl k2.dr)
  | true =>
    simp only [if_true]
    rw [ci_gt]
    refine ⟨_, rfl, ?_⟩
    cases hk0 : decide ((0 : Int) < (k : Int)) with
    | false =>
      simp only [Bool.false_eq_true, if_false]
      refine ⟨_, rfl, ?_⟩
      simp only [Bool.false_eq_true, if_false, denSs]
      exact rest st2 (Keep.refl k2.dr)
    | true =>
      simp only [if_true, denEs, den, h1, List.getElem?_cons_zero]
      refine ⟨a, 5, rfl, by decide, by decide, k2.dr, fun r st3 _ _ k3 => ?_⟩
      show cmpR st3 .Gt (.int r) (.int 0) _
      rw [ci_gt]
      refine ⟨_, rfl, ?_⟩
      cases hr : decide (0 < r) with
      | false =>
        simp only [Bool.false_eq_true, if_false, denSs]
        exact rest st3 k3
      | true =>
        simp only [if_true, denSs, denS, den, denEs, h4, List.getElem?_cons_zero, List.getElem?_cons_succ, opR]
        have e3 := k3.ob c _ hca e2
        refine at' e3 ?_
        obtain ⟨ys, hys⟩ : ∃ ys, xs[j] = .tup ys ∨ xs[j] = .lst ys := by
          simp only [List.any_cons, List.any_nil, Bool.or_false, Bool.or_eq_true] at hs
          rcases hs with h | h
          · obtain ⟨ys, h⟩ := ty_tup.mp h; exact ⟨ys, .inl h⟩
          · obtain ⟨ys, h⟩ := ty_lst.mp h; exact ⟨ys, .inr h⟩
        obtain ⟨k', rfl⟩ : ∃ k', k = k' + 1 := ⟨k - 1, by simp at hk0; omega⟩
        refine ⟨a, _, ys, k', b, m, by rw [show ((k' + 1 : Nat) : Int) - 1 = (k' : Int) by omega], by omega, hys, okj, hb, hb2, by omega, k3.dr, fun y s4 hy _ k4 => ?_⟩
        have K4 := K2.trans (k3.trans k4)
        have e4 := k4.ob c _ hca e3
        refine ⟨c, _, rfl, e4, sto_lst hj ?_⟩
        unfold b_oth_fin
        simp only [denSs, denS]
        exact (fin_ret (Γ := Γ) (b := b + 1) (m := m + 6) rfl rfl hx OKx (K4.bump hc hca) hc hca Store.set_same (by rw [List.length_set]; omega) (set_ok (fun z h => D.ok.mono (by omega) (by omega) (hz z h)) hy) fun y s hy hs k => hP y s (D.ok.mono (Nat.le_refl _) (by omega) hy) hs k).1
end
end G
/-! The law of worlds. -/
namespace G
open PySem PySem.Spec PyProof.Rows L2
theorem facts_ok {n : Nat} : ∀ x ∈ FACTS.take n, D.ok 60 0 x = true := fun x hx => by
  have h : D.oks 60 0 FACTS = true := by decide +kernel
  exact oks_iff.mp h x (List.mem_of_mem_take hx)
theorem facts_len {n : Nat} : (FACTS.take n).length ≤ 6 := by rw [List.length_take]; exact Nat.min_le_right _ _
theorem sub_ok {n : Nat} {xs : List D} (h : xs.Sublist (FACTS.take n)) : D.ok 60 1 (.tup xs) = true :=
  ok_mkT (Nat.le_trans h.length_le (Nat.le_trans facts_len (by decide))) fun x hx => facts_ok x (h.subset hx)
theorem pair_ok {n : Nat} {ps ts : List D} (h : PairOf (FACTS.take n) ps ts) : D.ok 60 2 (pairD ps ts) = true := by
  refine ok_mkT (by show 2 ≤ 60; decide) fun x hx => ?_
  simp only [List.mem_cons, List.not_mem_nil, or_false] at hx
  rcases hx with rfl | rfl
  · exact sub_ok h.1
  · exact sub_ok h.2.1
theorem nm_ok {L : List D} (hL : D.oks 60 0 L = true) {i : Nat} {nm : D} (h : L[i]? = some nm) {m : Nat} : D.ok 60 m nm = true := D.ok.mono (Nat.le_refl _) (Nat.zero_le _) (oks_iff.mp hL nm (List.mem_of_getElem? h))
theorem deed_ok {n i : Nat} {nm d : D} (hn : DEEDS[i]? = some nm) (h : DeedOk (FACTS.take n) nm d) : D.ok 60 4 d = true := by
  obtain ⟨c, ps, ts, chs, rfl, h1, h2, h3, h4, h5, h6⟩ := h
  refine ok_mkT (by show 4 ≤ 60; decide) fun x hx => ?_
  simp only [List.mem_cons, List.not_mem_nil, or_false] at hx
  rcases hx with rfl | rfl | rfl | rfl
  · exact nm_ok (by decide +kernel) hn
  · exact ok_none (.inr (.inr ⟨_, rfl⟩))
  · exact D.ok.mono (Nat.le_refl _) (by decide) (pair_ok h3)
  · refine ok_mkT (by omega) fun x hx => ?_
    obtain ⟨ps, ts, rfl, hp⟩ := h6 x hx
    exact pair_ok hp
theorem med_ok {n i : Nat} {nm d : D} (hn : MEDS[i]? = some nm) (h : MedOk (FACTS.take n) nm d) : D.ok 60 4 d = true := by
  obtain ⟨ps, ts, ps', ts', rfl, h3, h4⟩ := h
  refine ok_mkT (by show 3 ≤ 60; decide) fun x hx => ?_
  simp only [List.mem_cons, List.not_mem_nil, or_false] at hx
  rcases hx with rfl | rfl | rfl
  · exact nm_ok (by decide +kernel) hn
  · exact D.ok.mono (Nat.le_refl _) (by decide) (pair_ok h3)
  · exact D.ok.mono (Nat.le_refl _) (by decide) (pair_ok h4)
theorem each_ok {R : D → D → Prop} {nms xs : List D} {m : Nat} (h : Each R nms xs) (hR : ∀ (i : Nat) (nm d : D), nms[i]? = some nm → R nm d → D.ok 60 m d = true) : ∀ x ∈ xs, D.ok 60 m x = true := fun x hx => by
  obtain ⟨i, hi⟩ := List.mem_iff_getElem?.mp hx
  obtain ⟨nm, h1, h2⟩ := h i x hi
  exact hR i nm x h1 h2
theorem world_ok {most : Int} {w : D} (h : WorldOk most w) : ∃ n es ms, w = .tup [.tup (FACTS.take n), .tup es, .tup ms] ∧ D.ok 60 1 (.tup (FACTS.take n)) = true ∧ D.ok 60 5 (.tup es) = true ∧ D.ok 60 5 (.tup ms) = true ∧ D.ok 60 6 w = true := by
  obtain ⟨n, es, ms, h1, h2, h3, rfl, h4, h5, h6, h7, h8⟩ := h
  have a : D.ok 60 1 (.tup (FACTS.take n)) = true := sub_ok (List.Sublist.refl _)
  have b : D.ok 60 5 (.tup es) = true := ok_mkT (by omega) (each_ok h7 fun i nm d => deed_ok)
  have c : D.ok 60 5 (.tup ms) = true := ok_mkT (by omega) (each_ok h8 fun i nm d => med_ok)
  refine ⟨n, es, ms, rfl, a, b, c, ok_mkT (by show 3 ≤ 60; decide) fun x hx => ?_⟩
  simp only [List.mem_cons, List.not_mem_nil, or_false] at hx
  rcases hx with rfl | rfl | rfl
  · exact D.ok.mono (Nat.le_refl _) (by decide) a
  · exact b
  · exact c
/-- the context of the law -/
structure Kw (Γ : Ctx) : Prop where
  draws : Γ.fn "_law_draws" = some sp__law_draws
  draw : Γ.fn "_law_draw" = some sp__law_draw
  case_ : Γ.fn "_law_case" = some sp__law_case
  thing : Γ.fn "_law_thing" = some (spT 4)
  oth : Γ.fn "_law_otherwise" = some (spO 6)
  truly : Γ.fn "_law_truly" = some sp__law_truly
  isWorld : Γ.fn "is_world" = some sp_is_world
  lWorld : Γ.fn "_law_is_world" = some sp_is_world
  isState : Γ.fn "is_state" = some sp_is_state
  lSome : Γ.fn "_law_are_some" = some sp_are_some
  isCond : Γ.fn "is_condition" = some sp_is_condition
  lPair : Γ.fn "_law_is_pair" = some sp_is_pair
  isPlace : Γ.fn "is_place" = some sp_is_place
  lPlace : Γ.fn "_law_is_place" = some sp_is_place
section
variable {Γ : Ctx}
/-- the four loops of judging -/
theorem judge1 (C : Kw Γ) {o0 o1 o2 o3 o4 o5 o6 o8 o9 o10 o11 : Option D} {K : Kn} {ds : List D} {st : Store} {o7 : Option D} (h : ∀ d ∈ ds, OK d) (hK : ∀ o7, K.nx [o0, o1, o2, o3, o4, o5, o6, o7, o8, o9, o10, o11] st) :
    forL (.var 7) (fun ρ st K => denSs Γ X0 b_law_1 K ρ st) K ds [o0, o1, o2, o3, o4, o5, o6, o7, o8, o9, o10, o11] st := by
  refine forL_inv (fun _ ρ s => s = st ∧ ∃ o7, ρ = [o0, o1, o2, o3, o4, o5, o6, o7, o8, o9, o10, o11]) ds 0 _ _ ⟨rfl, _, rfl⟩ ?_ ?_
  · rintro j d ρ s N hj ⟨rfl, o7, rfl⟩ hN
    have hd := h d (List.mem_of_getElem? hj)
    unfold b_law_1
    simp only [asg, List.set]
    refine cons_ife false (fun Q hQ => ?_) ?_
    · simp only [den, denEs, C.isWorld, C.lWorld, C.truly, List.getElem?_cons_zero, List.getElem?_cons_succ]
      exact ⟨d, rfl, hd, d, rfl, hd, _, _, rfl, _, rfl, by simpa using hQ⟩
    · simp only [Bool.false_eq_true, if_false, denSs]
      exact hN _ _ ⟨rfl, _, rfl⟩
  · rintro ρ s ⟨rfl, o7, rfl⟩
    exact hK o7
theorem judge2 (C : Kw Γ) {o0 o1 o2 o3 o4 o5 o6 o9 o10 o11 : Option D} {fs r : List D} {K : Kn} {ds : List D} {st : Store} {o7 : Option D} (hw : OK (.tup fs)) (h : ∀ d ∈ ds, OK d) (hK : ∀ o7, K.nx [o0, o1, o2, o3, o4, o5, o6, o7, some (.tup (.tup fs :: r)), o9, o10, o11] st) :
    forL (.var 7) (fun ρ st K => denSs Γ X0 b_law_2 K ρ st) K ds [o0, o1, o2, o3, o4, o5, o6, o7, some (.tup (.tup fs :: r)), o9, o10, o11] st := by
  refine forL_inv (fun _ ρ s => s = st ∧ ∃ o7, ρ = [o0, o1, o2, o3, o4, o5, o6, o7, some (.tup (.tup fs :: r)), o9, o10, o11]) ds 0 _ _ ⟨rfl, _, rfl⟩ ?_ ?_
  · rintro j d ρ s N hj ⟨rfl, o7, rfl⟩ hN
    have hd := h d (List.mem_of_getElem? hj)
    unfold b_law_2
    simp only [asg, List.set]
    refine cons_ife false (fun Q hQ => ?_) ?_
    · simp only [den, denEs, C.isState, C.lSome, C.truly, List.getElem?_cons_zero, List.getElem?_cons_succ]
      exact ⟨_, d, rfl, ⟨fs, r, rfl, hw⟩, hd, ix_tupk at0 ⟨fs, d, rfl, hw, hd, _, _, rfl, _, rfl, by simpa [wFacts, tItems] using hQ⟩⟩
    · simp only [Bool.false_eq_true, if_false, denSs]
      exact hN _ _ ⟨rfl, _, rfl⟩
  · rintro ρ s ⟨rfl, o7, rfl⟩
    exact hK o7
theorem judge3 (C : Kw Γ) {o0 o1 o2 o3 o4 o5 o6 o9 o10 o11 : Option D} {fs r : List D} {K : Kn} {ds : List D} {st : Store} {o7 : Option D} (hw : OK (.tup fs)) (h : ∀ d ∈ ds, OK d) (hK : ∀ o7, K.nx [o0, o1, o2, o3, o4, o5, o6, o7, some (.tup (.tup fs :: r)), o9, o10, o11] st) :
    forL (.var 7) (fun ρ st K => denSs Γ X0 b_law_3 K ρ st) K ds [o0, o1, o2, o3, o4, o5, o6, o7, some (.tup (.tup fs :: r)), o9, o10, o11] st := by
  refine forL_inv (fun _ ρ s => s = st ∧ ∃ o7, ρ = [o0, o1, o2, o3, o4, o5, o6, o7, some (.tup (.tup fs :: r)), o9, o10, o11]) ds 0 _ _ ⟨rfl, _, rfl⟩ ?_ ?_
  · rintro j d ρ s N hj ⟨rfl, o7, rfl⟩ hN
    have hd := h d (List.mem_of_getElem? hj)
    unfold b_law_3
    simp only [asg, List.set]
    refine cons_ife false (fun Q hQ => ?_) ?_
    · simp only [den, denEs, C.isCond, C.lPair, C.truly, List.getElem?_cons_zero, List.getElem?_cons_succ]
      exact ⟨_, d, rfl, ⟨fs, r, rfl, hw⟩, hd, ix_tupk at0 ⟨fs, d, rfl, hw, hd, _, _, rfl, _, rfl, by simpa [wFacts, tItems] using hQ⟩⟩
    · simp only [Bool.false_eq_true, if_false, denSs]
      exact hN _ _ ⟨rfl, _, rfl⟩
  · rintro ρ s ⟨rfl, o7, rfl⟩
    exact hK o7
theorem judge4 (C : Kw Γ) {o0 o1 o2 o3 o4 o5 o6 o9 o10 o11 : Option D} {fs r : List D} {K : Kn} {ds : List D} {st : Store} {o7 : Option D} (hw : OK (.tup fs)) (h : ∀ d ∈ ds, OK d) (hK : ∀ o7, K.nx [o0, o1, o2, o3, o4, o5, o6, o7, some (.tup (.tup fs :: r)), o9, o10, o11] st) :
    forL (.var 7) (fun ρ st K => denSs Γ X0 b_law_4 K ρ st) K ds [o0, o1, o2, o3, o4, o5, o6, o7, some (.tup (.tup fs :: r)), o9, o10, o11] st := by
  refine forL_inv (fun _ ρ s => s = st ∧ ∃ o7, ρ = [o0, o1, o2, o3, o4, o5, o6, o7, some (.tup (.tup fs :: r)), o9, o10, o11]) ds 0 _ _ ⟨rfl, _, rfl⟩ ?_ ?_
  · rintro j d ρ s N hj ⟨rfl, o7, rfl⟩ hN
    have hd := h d (List.mem_of_getElem? hj)
    unfold b_law_4
    simp only [asg, List.set]
    refine cons_ife false (fun Q hQ => ?_) ?_
    · simp only [den, denEs, C.isPlace, C.lPlace, C.truly, List.getElem?_cons_zero, List.getElem?_cons_succ]
      exact ⟨_, d, rfl, ⟨fs, r, rfl, hw⟩, hd, _, d, rfl, ⟨fs, r, rfl, hw⟩, hd, _, _, rfl, _, rfl, by simpa using hQ⟩
    · simp only [Bool.false_eq_true, if_false, denSs]
      exact hN _ _ ⟨rfl, _, rfl⟩
  · rintro ρ s ⟨rfl, o7, rfl⟩
    exact hK o7
theorem Keep.lst {a c : Addr} {st : Store} {o : Ob} (h : Dr st a) (hc : c ≠ a) : Keep a (st.set c o) (st.set c o) := by
  obtain ⟨u, v, e⟩ := h
  exact Keep.refl ⟨u, v, by rw [set_ne hc.symm]; exact e⟩
theorem Dr.set {a c : Addr} {st : Store} {o : Ob} (h : Dr st a) (hc : c ≠ a) : Dr (st.set c o) a := by
  obtain ⟨u, v, e⟩ := h
  exact ⟨u, v, by rw [set_ne hc.symm]; exact e⟩
theorem d_law (C : Kw Γ) : Does Γ 12 1 b_law sp_law := by
  rintro ds st P ⟨xs, rfl, hi, hl, hP⟩
  refine ⟨rfl, ?_⟩
  unfold b_law
  rw [denSs, denS]
  simp only [denI, den, startE, List.map_cons, List.map_nil, List.cons_append, List.nil_append, List.getElem?_cons_zero, List.length_cons, List.length_nil]
  refine len_ro ?_
  refine ⟨_, _, rfl, rfl, _, _, rfl, rfl, _, rfl, ?_, ?_⟩
  · split <;> split <;> omega
  · refine forL_inv (fun _ ρ _ => ∃ o1 o2 o3 o4 o5 o6 o7 o8 o9 o10 o11, ρ = [some (.ro xs), o1, o2, o3, o4, o5, o6, o7, o8, o9, o10, o11]) _ 0 _ _ ⟨_, _, _, _, _, _, _, _, _, _, _, rfl⟩ ?_ ?_
    · rintro j d ρ st1 N hj ⟨o1, o2, o3, o4, o5, o6, o7, o8, o9, o10, o11, rfl⟩ hN
      obtain ⟨k, rfl⟩ : ∃ k : Nat, d = .int (k : Int) := by
        simp only [rangeL, List.getElem?_map, Option.map_eq_some_iff] at hj
        obtain ⟨i, _, rfl⟩ := hj
        exact ⟨i, by rw [Int.zero_add]⟩
      unfold b_law_5
      simp only [asg, List.set]
      -- draws, the case
      rw [denSs, denS]
      simp only [den, denEs, C.draws, List.getElem?_cons_zero, List.getElem?_cons_succ]
      refine ⟨xs, k, rfl, hi, fun a st2 _ hd2 _ => ?_⟩
      simp only [asg, List.set]
      rw [denSs, denS]
      simp only [den, denEs, C.case_, List.getElem?_cons_zero, List.getElem?_cons_succ]
      refine ⟨a, 6, rfl, by decide, by decide, hd2, fun c st3 hc hk3 => ?_⟩
      obtain ⟨w, ps, ts, ss, sl, me, rfl, hw, hpo, hss, s0, s1, m0, m1⟩ := hc
      obtain ⟨n, es, ms, rfl, okf, oke, okm, okw⟩ := world_ok hw
      simp only [caseD, asg, asgs, List.set, wFacts, tItems] at hpo hss ⊢
      have okg := pair_ok hpo
      have oks := sub_ok hss
      have okp : D.ok 60 2 (.tup [.tup ss, .int sl, .int me]) = true := ok_mkT (by show 3 ≤ 60; decide) fun x hx => by
        simp only [List.mem_cons, List.not_mem_nil, or_false] at hx
        rcases hx with rfl | rfl | rfl
        · exact oks
        · exact ok_none (.inr (.inr ⟨_, rfl⟩))
        · exact ok_none (.inr (.inr ⟨_, rfl⟩))
      have OKf : OK (.tup (FACTS.take n)) := ok_le okf
      generalize hfs : FACTS.take n = fs at *
      -- once
      rw [denSs, denS]
      simp only [den, denEs, C.oth, List.getElem?_cons_zero, List.getElem?_cons_succ]
      refine ⟨a, _, _, 5, 60, 6, rfl, by decide, .inl rfl, okw, by decide, by decide, by decide, hk3.dr, fun once st4 hon hseq hk4 => ?_⟩
      simp only [asg, List.set]
      -- idle
      refine cons_asg (.tup [.tup [], .tup []]) (fun Q hQ => by simp only [den, denEs]; exact ⟨by decide, by decide, by show 2 ≤ sizeLine; decide, hQ⟩) ?_
      simp only [List.set]
      have okonce : D.ok 61 12 once = true := hon
      obtain ⟨flen, flens⟩ : fs.length ≤ 60 ∧ ∀ x ∈ fs, D.ok 60 0 x = true := by
        obtain ⟨m, e, h1, h2⟩ := ok_tup okf
        cases e; exact ⟨h1, h2⟩
      have oidle : D.ok 60 2 (.tup [.tup [], .tup []]) = true := by decide +kernel
      -- things
      rw [denSs, denS]
      simp only [den, denP, denEs, C.thing, List.getElem?_cons_zero, List.getElem?_cons_succ]
      refine ⟨_, rfl, a, 3, rfl, by decide, hk4.dr, fun t1 st5 ht1 hk5 => ?_⟩
      refine ix_tupk at0 ⟨by show 1 ≤ sizeLine; decide, ?_⟩
      simp only [opR]
      refine ⟨by show fs.length + 1 ≤ sizeLine; exact sz1000 (by omega), ix_tupk at1 (ix_tupk at2 ⟨by show 3 ≤ sizeLine; decide, by show 5 ≤ sizeLine; decide, fun c hc => ?_⟩)⟩
      obtain ⟨u5, v5, ea5⟩ := hk5.dr
      have hca : c ≠ a := fun z => by rw [z, ea5] at hc; cases hc
      have hd6 : Dr (st5.set c (.lst [.tup [.tup fs, .tup es, .tup ms], once, .lst [.tup fs, .tup es, .tup ms], t1, .tup [.tup (fs ++ [.str "zz"]), .tup es, .tup ms]])) a := hk5.dr.set hca
      have e6 : (st5.set c (.lst [.tup [.tup fs, .tup es, .tup ms], once, .lst [.tup fs, .tup es, .tup ms], t1, .tup [.tup (fs ++ [.str "zz"]), .tup es, .tup ms]])) c = some (.lst [.tup [.tup fs, .tup es, .tup ms], once, .lst [.tup fs, .tup es, .tup ms], t1, .tup [.tup (fs ++ [.str "zz"]), .tup es, .tup ms]]) := Store.set_same
      have okl : ∀ x ∈ [D.tup fs, .tup es, .tup ms], D.ok 61 5 x = true := fun x hx => by
        simp only [List.mem_cons, List.not_mem_nil, or_false] at hx
        rcases hx with rfl | rfl | rfl
        · exact D.ok.mono (by decide) (by decide) okf
        · exact D.ok.mono (by decide) (by decide) oke
        · exact D.ok.mono (by decide) (by decide) okm
      have okz : D.ok 61 1 (.tup (fs ++ [.str "zz"])) = true := ok_mkT (by rw [List.length_append]; show fs.length + 1 ≤ 61; omega) fun x hx => by
        rcases List.mem_append.mp hx with hx | hx
        · exact D.ok.mono (by decide) (by decide) (flens x hx)
        · rw [List.mem_singleton.mp hx]; decide +kernel
      have all6 : ∀ x ∈ [D.tup [.tup fs, .tup es, .tup ms], once, .lst [.tup fs, .tup es, .tup ms], t1, .tup [.tup (fs ++ [.str "zz"]), .tup es, .tup ms]], OK x := fun x hx => by
        simp only [List.mem_cons, List.not_mem_nil, or_false] at hx
        rcases hx with rfl | rfl | rfl | rfl | rfl
        · exact ok_le okw
        · exact ok_le okonce
        · exact ok_le (ok_mkL (b := 61) (by show 3 ≤ 61; decide) okl)
        · exact ok_le ht1
        · refine ok_le (ok_mkT (b := 61) (n := 5) (by show 3 ≤ 61; decide) fun x hx => ?_)
          simp only [List.mem_cons, List.not_mem_nil, or_false] at hx
          rcases hx with rfl | rfl | rfl
          · exact D.ok.mono (by decide) (by decide) okz
          · exact D.ok.mono (by decide) (by decide) oke
          · exact D.ok.mono (by decide) (by decide) okm
      generalize st5.set c _ = st6 at hd6 e6 ⊢
      generalize hts : [D.tup [.tup fs, .tup es, .tup ms], once, .lst [.tup fs, .tup es, .tup ms], t1, .tup [.tup (fs ++ [.str "zz"]), .tup es, .tup ms]] = ts0 at e6 all6 ⊢
      have lts : ts0.length = 5 := by rw [← hts]; rfl
      clear hts
      simp only [asg, List.set]
      -- once more changed
      have sz : ∀ {n : Nat}, n ≤ 2000 → n < sizeLine := fun h => Nat.lt_of_le_of_lt h (by decide)
      have ap : ∀ Q : Post, (∀ y st7, OK y → Keep a st6 st7 → Q y st7) →
          den Γ X0 (.ite (.cmp .NotIn (.var 3) (.tup (.cons (.tup .nil) (.cons (.fr (.disp .nil)) .nil)))) (.call "_law_otherwise" (.cons (.var 2) (.cons (.var 3) (.cons (.int 5) .nil)))) (.var 3))
            [some (.ro xs), some (.int (k : Int)), some (.loc a), some once, some (.tup [.tup [], .tup []]), some (.loc c), o6, o7, some (.tup [.tup fs, .tup es, .tup ms]), some (pairD ps ts), some (.tup [.tup ss, .int sl, .int me]), o11] st6 Q := by
        intro Q hQ
        simp only [den, denP, denEs, C.oth, List.getElem?_cons_zero, List.getElem?_cons_succ]
        refine ⟨by decide, by decide, by show 2 ≤ sizeLine; decide, .inl ⟨_, rfl, D.ok.dat (n := 12) (by decide) okonce, by decide +kernel, ?_⟩⟩
        cases hq : (!([D.tup [], .lst []].any fun x => x.eqv once)) with
        | true =>
          refine ⟨true, rfl, ?_⟩
          simp only [if_true]
          obtain ⟨ys, hys⟩ := hseq
          exact ⟨a, once, ys, 5, 61, 12, rfl, by decide, hys, okonce, by decide, by decide, by decide, hd6, fun y st7 hy _ k7 => hQ y st7 (ok_le hy) k7⟩
        | false =>
          refine ⟨false, rfl, ?_⟩
          simp only [Bool.false_eq_true, if_false]
          exact hQ once st6 (ok_le okonce) (Keep.refl hd6)
      rw [denSs, denS, den, den]
      simp only [List.getElem?_cons_zero, List.getElem?_cons_succ]
      refine ⟨c, ts0, rfl, e6, ap _ fun y st7 hy k7 => ⟨ts0, k7.ob c _ hca e6, sz (by omega), ?_⟩⟩
      have hd8 : Dr (st7.set c (.lst (ts0 ++ [y]))) a := k7.dr.set hca
      have e8 : (st7.set c (.lst (ts0 ++ [y]))) c = some (.lst (ts0 ++ [y])) := Store.set_same
      have all8 : ∀ x ∈ ts0 ++ [y], OK x := fun x hx => by
        rcases List.mem_append.mp hx with hx | hx
        · exact all6 x hx
        · rw [List.mem_singleton.mp hx]; exact hy
      have l8 : (ts0 ++ [y]).length = 6 := by rw [List.length_append, lts]; rfl
      generalize st7.set c (.lst (ts0 ++ [y])) = st8 at hd8 e8 ⊢
      generalize ts0 ++ [y] = ts1 at e8 all8 l8 ⊢
      -- names
      rw [denSs, denS]
      simp only [den, denO, denEs, C.draw, List.getElem?_cons_zero, List.getElem?_cons_succ]
      refine ⟨a, 3, rfl, by decide, by decide, hd8, fun r st9 r0 r1 k9 => ⟨_, rfl, ?_⟩⟩
      have hst : ("abcdefghi" : Str).length = 9 := by decide +kernel
      simp only [slcR]
      refine ⟨by rw [hst]; decide, ?_⟩
      have anm : ascii (cutS "abcdefghi" none (some (7 + r))) = true := ascii_cut (by decide +kernel)
      have lnm : (cutS "abcdefghi" none (some (7 + r))).length ≤ 9 := by rw [← hst]; exact cutS_length _ _ _
      generalize cutS "abcdefghi" none (some (7 + r)) = nms at anm lnm ⊢
      have e9 := k9.ob c _ hca e8
      have hd9 := k9.dr
      have chok : ∀ {z : Str}, ascii z = true → ∀ d ∈ chars z, D.ok 60 0 d = true := fun hz d hd => by
        obtain ⟨q, hq, rfl⟩ := List.mem_map.mp hd
        unfold D.ok
        simp only [Bool.and_eq_true, decide_eq_true_eq]
        refine ⟨?_, by show 1 ≤ 60; decide⟩
        unfold ascii at hz ⊢
        rw [Array.all_eq_true'] at hz ⊢
        intro y hy
        have : y = q := by simpa using hy
        rw [this]
        exact hz q (by simpa using hq)
      simp only [asg, List.set]
      have mk3 : ∀ {p q : D}, D.ok 100 8 p = true → D.ok 100 8 q = true → OK (.tup [.tup fs, p, q]) := fun hp hq => ok_le (b := 100) (n := 9) (ok_mkT (by show 3 ≤ 100; decide) fun x hx => by
        simp only [List.mem_cons, List.not_mem_nil, or_false] at hx
        rcases hx with rfl | rfl | rfl
        · exact D.ok.mono (by decide) (by decide) okf
        · exact hp
        · exact hq)
      have onil : D.ok 100 8 (.tup []) = true := by decide +kernel
      have oidl : ∀ {m : Nat}, 2 ≤ m → D.ok 100 m (.tup [.tup [], .tup []]) = true := fun h => D.ok.mono (by decide) h oidle
      have oone : ∀ {m : Nat}, D.ok 100 m (.int 1) = true := by intro m; unfold D.ok; rfl
      have all_snoc : ∀ {ts : List D} {x : D}, (∀ z ∈ ts, OK z) → OK x → ∀ z ∈ ts ++ [x], OK z := fun h hx z hz => by
        rcases List.mem_append.mp hz with hz | hz
        · exact h z hz
        · rw [List.mem_singleton.mp hz]; exact hx
      -- deeds enough
      rw [denSs, denS]
      simp only [den, denP, denI, denEs, items1, wipeE, List.set, List.getElem?_cons_zero, List.getElem?_cons_succ]
      refine ⟨c, ts1, rfl, e9, ix_tupk at0 ?_⟩
      show turns _ (chars nms) st9 [] _
      refine turns_map (g := fun d => .tup [d, .int 1, .tup [.tup [], .tup []], .tup [.tup [.tup [], .tup []]]]) (chars nms) [] (by rw [chars_len]; exact sz1000 (by simp; omega)) (fun d hd kk hq => ?_) ?_
      · simp only [asg, List.set, List.getElem?_cons_zero, List.getElem?_cons_succ]
        exact ⟨by show 1 ≤ sizeLine; decide, by show 4 ≤ sizeLine; decide, hq⟩
      refine ⟨_, rfl, by show 0 ≤ sizeLine; decide, by show 3 ≤ sizeLine; decide, ts1, e9, sz (by omega), ?_⟩
      have o10 := mk3 (p := .tup ([] ++ (chars nms).map fun d => .tup [d, .int 1, .tup [.tup [], .tup []], .tup [.tup [.tup [], .tup []]]])) (ok_mkT (n := 7) (by simp [chars_len]; omega) fun x hx => by
        simp only [List.nil_append, List.mem_map] at hx
        obtain ⟨d, hd, rfl⟩ := hx
        refine ok_mkT (n := 6) (by show 4 ≤ 100; decide) fun x hx => ?_
        simp only [List.mem_cons, List.not_mem_nil, or_false] at hx
        rcases hx with rfl | rfl | rfl | rfl
        · exact D.ok.mono (by decide) (by decide) (chok anm _ hd)
        · exact oone
        · exact oidl (by decide)
        · exact ok_mkT (by show 1 ≤ 100; decide) fun x hx => by rw [List.mem_singleton.mp hx]; exact oidl (by decide)) onil
      generalize D.tup [.tup fs, .tup ([] ++ (chars nms).map fun d => .tup [d, .int 1, .tup [.tup [], .tup []], .tup [.tup [.tup [], .tup []]]]), .tup []] = y10 at o10 ⊢
      have hd10 : Dr (st9.set c (.lst (ts1 ++ [y10]))) a := hd9.set hca
      have e10 : (st9.set c (.lst (ts1 ++ [y10]))) c = some (.lst (ts1 ++ [y10])) := Store.set_same
      have all10 := all_snoc all8 o10
      have l10 : (ts1 ++ [y10]).length = 7 := by rw [List.length_append, l8]; rfl
      generalize st9.set c (.lst (ts1 ++ [y10])) = st10 at hd10 e10 ⊢
      generalize ts1 ++ [y10] = ts2 at e10 all10 l10 ⊢
      -- meddlers enough
      rw [denSs, denS]
      simp only [den, denP, denI, denO, denEs, C.draw, wipeE, List.set, List.getElem?_cons_zero, List.getElem?_cons_succ]
      refine ⟨c, ts2, rfl, e10, ix_tupk at0 ⟨by show 0 ≤ sizeLine; decide, a, 3, rfl, by decide, by decide, hd10, fun r' st11 r0' r1' k11 => ⟨_, rfl, ?_⟩⟩⟩
      simp only [slcR]
      refine ⟨Nat.le_of_lt (sz (by omega)), ?_⟩
      have anm2 : ascii (cutS nms none (some (3 + r'))) = true := ascii_cut anm
      have lnm2 : (cutS nms none (some (3 + r'))).length ≤ 9 := Nat.le_trans (cutS_length _ _ _) lnm
      generalize cutS nms none (some (3 + r')) = nms2 at anm2 lnm2 ⊢
      simp only [items1]
      show turns _ (chars nms2) st11 [] _
      refine turns_map (g := fun d => .tup [d, .tup [.tup [], .tup []], .tup [.tup [], .tup []]]) (chars nms2) [] (by rw [chars_len]; exact sz1000 (by simp; omega)) (fun d hd kk hq => ?_) ?_
      · simp only [asg, List.set, List.getElem?_cons_zero, List.getElem?_cons_succ]
        exact ⟨by show 3 ≤ sizeLine; decide, hq⟩
      have e11 := k11.ob c _ hca e10
      refine ⟨_, rfl, by show 3 ≤ sizeLine; decide, ts2, e11, sz (by omega), ?_⟩
      have o11' := mk3 (q := .tup ([] ++ (chars nms2).map fun d => .tup [d, .tup [.tup [], .tup []], .tup [.tup [], .tup []]])) onil (ok_mkT (n := 7) (by simp [chars_len]; omega) fun x hx => by
        simp only [List.nil_append, List.mem_map] at hx
        obtain ⟨d, hd, rfl⟩ := hx
        refine ok_mkT (n := 6) (by show 3 ≤ 100; decide) fun x hx => ?_
        simp only [List.mem_cons, List.not_mem_nil, or_false] at hx
        rcases hx with rfl | rfl | rfl
        · exact D.ok.mono (by decide) (by decide) (chok anm2 _ hd)
        · exact oidl (by decide)
        · exact oidl (by decide))
      generalize D.tup [.tup fs, .tup [], .tup ([] ++ (chars nms2).map fun d => .tup [d, .tup [.tup [], .tup []], .tup [.tup [], .tup []]])] = y11 at o11' ⊢
      have hd12 : Dr (st11.set c (.lst (ts2 ++ [y11]))) a := k11.dr.set hca
      have e12 : (st11.set c (.lst (ts2 ++ [y11]))) c = some (.lst (ts2 ++ [y11])) := Store.set_same
      have all12 := all_snoc all10 o11'
      have l12 : (ts2 ++ [y11]).length = 8 := by rw [List.length_append, l10]; rfl
      generalize st11.set c (.lst (ts2 ++ [y11])) = st12 at hd12 e12 ⊢
      generalize ts2 ++ [y11] = ts3 at e12 all12 l12 ⊢
      -- changes enough
      rw [denSs, denS]
      simp only [den, denEs, C.draw, opR, List.getElem?_cons_zero, List.getElem?_cons_succ]
      refine ⟨c, ts3, rfl, e12, ix_tupk at0 ⟨by show 1 ≤ sizeLine; decide, a, 3, rfl, by decide, by decide, hd12, fun r'' st13 r0'' r1'' k13 => ?_⟩⟩
      have e13 := k13.ob c _ hca e12
      refine ⟨by simp, by omega, by omega, by simp, by show 4 ≤ sizeLine; decide, by show 1 ≤ sizeLine; decide, by show 0 ≤ sizeLine; decide, by show 3 ≤ sizeLine; decide, ts3, e13, sz (by omega), ?_⟩
      have o13 := mk3 (p := .tup [.tup [.str "a", .int 1, .tup [.tup [], .tup []], .tup (List.replicate (2 + r'').toNat [D.tup [.tup [], .tup []]]).flatten]]) (ok_mkT (n := 7) (by show 1 ≤ 100; decide) fun x hx => by
        rw [List.mem_singleton.mp hx]
        refine ok_mkT (n := 6) (by show 4 ≤ 100; decide) fun x hx => ?_
        simp only [List.mem_cons, List.not_mem_nil, or_false] at hx
        rcases hx with rfl | rfl | rfl | rfl
        · decide +kernel
        · exact oone
        · exact oidl (by decide)
        · refine ok_mkT (n := 5) (by simp; omega) fun x hx => ?_
          simp only [List.mem_flatten, List.mem_replicate] at hx
          obtain ⟨l, ⟨_, rfl⟩, hx⟩ := hx
          rw [List.mem_singleton.mp hx]
          exact oidl (by decide)) onil
      generalize D.tup [.tup fs, .tup [.tup [.str "a", .int 1, .tup [.tup [], .tup []], .tup (List.replicate (2 + r'').toNat [D.tup [.tup [], .tup []]]).flatten]], .tup []] = y13 at o13 ⊢
      have hd14 : Dr (st13.set c (.lst (ts3 ++ [y13]))) a := k13.dr.set hca
      have e14 : (st13.set c (.lst (ts3 ++ [y13]))) c = some (.lst (ts3 ++ [y13])) := Store.set_same
      have all14 := all_snoc all12 o13
      generalize st13.set c (.lst (ts3 ++ [y13])) = st14 at hd14 e14 ⊢
      generalize ts3 ++ [y13] = ts4 at e14 all14 ⊢
      -- the things stand still from here
      rw [denSs, denS]
      simp only [List.getElem?_cons_zero, List.getElem?_cons_succ]
      refine ⟨fun b => if b = c then none else st14 b, .lst ts4, fun b o z => by dsimp only at z; split at z <;> first | cases z | exact z, .loc e14 (by simp) (fzs_refl ts4), ?_⟩
      have hd15 : Dr (fun b => if b = c then none else st14 b) a := by
        obtain ⟨u, v, e⟩ := hd14
        exact ⟨u, v, by simp only [hca.symm, if_false]; exact e⟩
      generalize (fun b => if b = c then none else st14 b) = st15 at hd15 ⊢
      simp only [List.set]
      rw [denSs, denS]
      simp only [denI, den, items1, List.getElem?_cons_zero, List.getElem?_cons_succ]
      refine judge1 C all14 fun o7 => ?_
      have okP : OK (.tup [.tup ss, .int sl, .int me]) := ok_le okp
      have okG : OK (pairD ps ts) := ok_le okg
      obtain ⟨ssl, ssk⟩ : ss.length ≤ 60 ∧ ∀ x ∈ ss, D.ok 60 0 x = true := by
        obtain ⟨m, e, h1, h2⟩ := ok_tup oks
        cases e; exact ⟨h1, h2⟩
      -- states
      dsimp only
      rw [denSs, denS]
      simp only [denI, den, denP, denEs, C.oth, C.thing, List.getElem?_cons_zero, List.getElem?_cons_succ]
      refine ix_tupk at0 (ix_tupk at0 ⟨a, _, ss, 0, 60, 1, rfl, by decide, .inl rfl, oks, by decide, by decide, by decide, hd15, fun q1 st16 hq1 _ k16 => ?_⟩)
      refine ix_tupk at0 ⟨ss, rfl, a, 2, rfl, by decide, k16.dr, fun q2 st17 hq2 k17 => ⟨by show 5 ≤ sizeLine; decide, ?_⟩⟩
      simp only [items1]
      refine judge2 C OKf (fun x hx => ?_) fun o7 => ?_
      · simp only [List.mem_cons, List.not_mem_nil, or_false] at hx
        rcases hx with rfl | rfl | rfl | rfl | rfl
        · exact ok_le oks
        · exact ok_le hq1
        · exact ok_le (ok_mkL ssl ssk)
        · exact ok_le hq2
        · exact okG
      -- conditions
      dsimp only
      rw [denSs, denS]
      simp only [denI, den, denP, denEs, C.oth, C.thing, pairD, revR, List.getElem?_cons_zero, List.getElem?_cons_succ]
      refine ⟨a, _, _, 1, 60, 2, rfl, by decide, .inl rfl, okg, by decide, by decide, by decide, k17.dr, fun q3 st18 hq3 _ k18 => ?_⟩
      refine ⟨_, rfl, a, 2, rfl, by decide, k18.dr, fun q4 st19 hq4 k19 => ?_⟩
      refine ix_tupk at0 (ix_tupk at0 ⟨by show 2 ≤ sizeLine; decide, by show 6 ≤ sizeLine; decide, ?_⟩)
      simp only [items1]
      have opt := sub_ok (n := n) (xs := ps) (by rw [hfs]; exact hpo.1)
      have ott := sub_ok (n := n) (xs := ts) (by rw [hfs]; exact hpo.2.1)
      have two : ∀ {p q : D}, D.ok 60 1 p = true → D.ok 60 1 q = true → ∀ x ∈ [p, q], D.ok 60 1 x = true := fun hp hq x hx => by
        simp only [List.mem_cons, List.not_mem_nil, or_false] at hx
        rcases hx with rfl | rfl
        · exact hp
        · exact hq
      refine judge3 C OKf (fun x hx => ?_) fun o7 => ?_
      · simp only [List.mem_cons, List.not_mem_nil, or_false] at hx
        rcases hx with rfl | rfl | rfl | rfl | rfl | rfl
        · exact okG
        · exact ok_le hq3
        · exact ok_le (ok_mkL (b := 60) (by show 2 ≤ 60; decide) (two opt ott))
        · exact ok_le hq4
        · exact ok_le (ok_mkT (b := 60) (by show 2 ≤ 60; decide) (two opt opt))
        · exact ok_le (ok_mkT (b := 60) (by show 2 ≤ 60; decide) (two ott opt))
      -- places
      dsimp only
      rw [denSs, denS]
      simp only [denI, den, denP, denEs, C.oth, C.thing, List.getElem?_cons_zero, List.getElem?_cons_succ]
      refine ⟨a, _, _, 1, 60, 2, rfl, by decide, .inl rfl, okp, by decide, by decide, by decide, k19.dr, fun q5 st20 hq5 _ k20 => ?_⟩
      refine ⟨_, rfl, a, 2, rfl, by decide, k20.dr, fun q6 st21 hq6 k21 => ?_⟩
      refine ix_tupk at0 ⟨by show 3 ≤ sizeLine; decide, by show 5 ≤ sizeLine; decide, ?_⟩
      simp only [items1]
      have trip : ∀ {i j : Int}, ∀ x ∈ [D.tup ss, .int i, .int j], D.ok 60 1 x = true := fun x hx => by
        simp only [List.mem_cons, List.not_mem_nil, or_false] at hx
        rcases hx with rfl | rfl | rfl
        · exact oks
        · exact ok_none (.inr (.inr ⟨_, rfl⟩))
        · exact ok_none (.inr (.inr ⟨_, rfl⟩))
      refine judge4 C OKf (fun x hx => ?_) fun o7 => ?_
      · simp only [List.mem_cons, List.not_mem_nil, or_false] at hx
        rcases hx with rfl | rfl | rfl | rfl | rfl
        · exact okP
        · exact ok_le hq5
        · exact ok_le (ok_mkL (b := 60) (by show 3 ≤ 60; decide) trip)
        · exact ok_le hq6
        · exact ok_le (ok_mkT (b := 60) (by show 3 ≤ 60; decide) trip)
      dsimp only
      rw [denSs]
      exact hN _ _ ⟨_, _, _, _, _, _, _, _, _, _, _, rfl⟩
    · rintro ρ st1 ⟨o1, o2, o3, o4, o5, o6, o7, o8, o9, o10, o11, rfl⟩
      simp only [denSs, denS, den]
      exact hP _
end
end G
namespace G
open PySem PySem.Spec PyProof.Rows L2
def top (i : Nat) : Stmt := PySem.Challenge.pw_goalhelm_k01_what_is_a_world.main.body.getD i (.Pass ⟨0, 0, 0, 0⟩)
def κ_is_between : Kx := ⟨["thing", "low", "high"], [], []⟩
theorem ch_is_between : chSs κ_is_between (defScope (top 2)) b_is_between (defBody (top 2)) = true := by decide +kernel
theorem sc_is_between : FnScope κ_is_between.N ["thing", "low", "high"] (defScope (top 2)) := ⟨rfl, rfl, rfl, by decide +kernel, rfl, by decide +kernel, by decide +kernel⟩
def κ_is_name : Kx := ⟨["thing", "sign"], [], []⟩
theorem ch_is_name : chSs κ_is_name (defScope (top 3)) b_is_name (defBody (top 3)) = true := by decide +kernel
theorem sc_is_name : FnScope κ_is_name.N ["thing"] (defScope (top 3)) := ⟨rfl, rfl, rfl, by decide +kernel, rfl, by decide +kernel, by decide +kernel⟩
def κ_rises : Kx := ⟨["things", "one", "other"], [], []⟩
theorem ch_rises : chSs κ_rises (defScope (top 4)) b_rises (defBody (top 4)) = true := by decide +kernel
theorem sc_rises : FnScope κ_rises.N ["things"] (defScope (top 4)) := ⟨rfl, rfl, rfl, by decide +kernel, rfl, by decide +kernel, by decide +kernel⟩
def κ_are_facts : Kx := ⟨["thing", "one"], ["is_name", "rises"], []⟩
theorem ch_are_facts : chSs κ_are_facts (defScope (top 5)) b_are_facts (defBody (top 5)) = true := by decide +kernel
theorem sc_are_facts : FnScope κ_are_facts.N ["thing"] (defScope (top 5)) := ⟨rfl, rfl, rfl, by decide +kernel, rfl, by decide +kernel, by decide +kernel⟩
def κ_are_some : Kx := ⟨["facts", "thing", "one"], ["rises"], []⟩
theorem ch_are_some : chSs κ_are_some (defScope (top 6)) b_are_some (defBody (top 6)) = true := by decide +kernel
theorem sc_are_some : FnScope κ_are_some.N ["facts", "thing"] (defScope (top 6)) := ⟨rfl, rfl, rfl, by decide +kernel, rfl, by decide +kernel, by decide +kernel⟩
def κ_is_pair : Kx := ⟨["facts", "thing", "one"], ["are_some"], []⟩
theorem ch_is_pair : chSs κ_is_pair (defScope (top 7)) b_is_pair (defBody (top 7)) = true := by decide +kernel
theorem sc_is_pair : FnScope κ_is_pair.N ["facts", "thing"] (defScope (top 7)) := ⟨rfl, rfl, rfl, by decide +kernel, rfl, by decide +kernel, by decide +kernel⟩
def κ_is_deed : Kx := ⟨["facts", "thing", "change"], ["is_between", "is_name", "is_pair"], []⟩
theorem ch_is_deed : chSs κ_is_deed (defScope (top 8)) b_is_deed (defBody (top 8)) = true := by decide +kernel
theorem sc_is_deed : FnScope κ_is_deed.N ["facts", "thing"] (defScope (top 8)) := ⟨rfl, rfl, rfl, by decide +kernel, rfl, by decide +kernel, by decide +kernel⟩
def κ_is_meddler : Kx := ⟨["facts", "thing"], ["is_name", "is_pair"], []⟩
theorem ch_is_meddler : chSs κ_is_meddler (defScope (top 9)) b_is_meddler (defBody (top 9)) = true := by decide +kernel
theorem sc_is_meddler : FnScope κ_is_meddler.N ["facts", "thing"] (defScope (top 9)) := ⟨rfl, rfl, rfl, by decide +kernel, rfl, by decide +kernel, by decide +kernel⟩
def κ_are_named : Kx := ⟨["thing", "most", "one"], ["rises"], []⟩
theorem ch_are_named : chSs κ_are_named (defScope (top 10)) b_are_named (defBody (top 10)) = true := by decide +kernel
theorem sc_are_named : FnScope κ_are_named.N ["thing", "most"] (defScope (top 10)) := ⟨rfl, rfl, rfl, by decide +kernel, rfl, by decide +kernel, by decide +kernel⟩
def κ_is_world : Kx := ⟨["thing", "facts", "deeds", "meddlers", "deed", "one"], ["are_facts", "are_named", "is_deed", "is_meddler"], []⟩
theorem ch_is_world : chSs κ_is_world (defScope (top 11)) b_is_world (defBody (top 11)) = true := by decide +kernel
theorem sc_is_world : FnScope κ_is_world.N ["thing"] (defScope (top 11)) := ⟨rfl, rfl, rfl, by decide +kernel, rfl, by decide +kernel, by decide +kernel⟩
def κ_is_state : Kx := ⟨["world", "thing"], ["are_some"], []⟩
theorem ch_is_state : chSs κ_is_state (defScope (top 12)) b_is_state (defBody (top 12)) = true := by decide +kernel
theorem sc_is_state : FnScope κ_is_state.N ["world", "thing"] (defScope (top 12)) := ⟨rfl, rfl, rfl, by decide +kernel, rfl, by decide +kernel, by decide +kernel⟩
def κ_is_condition : Kx := ⟨["world", "thing"], ["is_pair"], []⟩
theorem ch_is_condition : chSs κ_is_condition (defScope (top 13)) b_is_condition (defBody (top 13)) = true := by decide +kernel
theorem sc_is_condition : FnScope κ_is_condition.N ["world", "thing"] (defScope (top 13)) := ⟨rfl, rfl, rfl, by decide +kernel, rfl, by decide +kernel, by decide +kernel⟩
def κ_is_place : Kx := ⟨["world", "thing"], ["is_between", "is_state"], []⟩
theorem ch_is_place : chSs κ_is_place (defScope (top 16)) b_is_place (defBody (top 16)) = true := by decide +kernel
theorem sc_is_place : FnScope κ_is_place.N ["world", "thing"] (defScope (top 16)) := ⟨rfl, rfl, rfl, by decide +kernel, rfl, by decide +kernel, by decide +kernel⟩
def κ__law_is_name : Kx := ⟨["thing", "sign"], [], []⟩
theorem ch__law_is_name : chSs κ__law_is_name (defScope (top 18)) b__law_is_name (defBody (top 18)) = true := by decide +kernel
theorem sc__law_is_name : FnScope κ__law_is_name.N ["thing"] (defScope (top 18)) := ⟨rfl, rfl, rfl, by decide +kernel, rfl, by decide +kernel, by decide +kernel⟩
def κ__law_are_rising : Kx := ⟨["thing", "one", "other"], [], []⟩
theorem ch__law_are_rising : chSs κ__law_are_rising (defScope (top 19)) b__law_are_rising (defBody (top 19)) = true := by decide +kernel
theorem sc__law_are_rising : FnScope κ__law_are_rising.N ["thing"] (defScope (top 19)) := ⟨rfl, rfl, rfl, by decide +kernel, rfl, by decide +kernel, by decide +kernel⟩
def κ__law_are_some : Kx := ⟨["facts", "thing", "one"], ["_law_are_rising"], []⟩
theorem ch__law_are_some : chSs κ__law_are_some (defScope (top 20)) b__law_are_some (defBody (top 20)) = true := by decide +kernel
theorem sc__law_are_some : FnScope κ__law_are_some.N ["facts", "thing"] (defScope (top 20)) := ⟨rfl, rfl, rfl, by decide +kernel, rfl, by decide +kernel, by decide +kernel⟩
def κ__law_is_pair : Kx := ⟨["facts", "thing", "one"], ["_law_are_some"], []⟩
theorem ch__law_is_pair : chSs κ__law_is_pair (defScope (top 21)) b__law_is_pair (defBody (top 21)) = true := by decide +kernel
theorem sc__law_is_pair : FnScope κ__law_is_pair.N ["facts", "thing"] (defScope (top 21)) := ⟨rfl, rfl, rfl, by decide +kernel, rfl, by decide +kernel, by decide +kernel⟩
def κ__law_is_whole : Kx := ⟨["thing", "low", "high"], [], []⟩
theorem ch__law_is_whole : chSs κ__law_is_whole (defScope (top 22)) b__law_is_whole (defBody (top 22)) = true := by decide +kernel
theorem sc__law_is_whole : FnScope κ__law_is_whole.N ["thing", "low", "high"] (defScope (top 22)) := ⟨rfl, rfl, rfl, by decide +kernel, rfl, by decide +kernel, by decide +kernel⟩
def κ__law_draws : Kx := ⟨["script", "k", "cell"], [], []⟩
theorem ch__law_draws : chSs κ__law_draws (defScope (top 23)) b__law_draws (defBody (top 23)) = true := by decide +kernel
theorem sc__law_draws : FnScope κ__law_draws.N ["script", "k"] (defScope (top 23)) := ⟨rfl, rfl, rfl, by decide +kernel, rfl, by decide +kernel, by decide +kernel⟩
def κ__law_draw : Kx := ⟨["draws", "many", "found", "wide"], [], []⟩
theorem ch__law_draw : chSs κ__law_draw (defScope (top 24)) b__law_draw (defBody (top 24)) = true := by decide +kernel
theorem sc__law_draw : FnScope κ__law_draw.N ["draws", "many"] (defScope (top 24)) := ⟨rfl, rfl, rfl, by decide +kernel, rfl, by decide +kernel, by decide +kernel⟩
def κ__law_pair : Kx := ⟨["draws", "facts", "share", "found", "fact", "way"], ["_law_draw"], []⟩
theorem ch__law_pair : chSs κ__law_pair (defScope (top 25)) b__law_pair (defBody (top 25)) = true := by decide +kernel
theorem sc__law_pair : FnScope κ__law_pair.N ["draws", "facts", "share"] (defScope (top 25)) := ⟨rfl, rfl, rfl, by decide +kernel, rfl, by decide +kernel, by decide +kernel⟩
def κ__law_world : Kx := ⟨["draws", "most", "facts", "far", "name", "deeds", "meddlers", "changes", "k"], ["_law_draw", "_law_pair"], []⟩
theorem ch__law_world : chSs κ__law_world (defScope (top 26)) b__law_world (defBody (top 26)) = true := by decide +kernel
theorem sc__law_world : FnScope κ__law_world.N ["draws", "most"] (defScope (top 26)) := ⟨rfl, rfl, rfl, by decide +kernel, rfl, by decide +kernel, by decide +kernel⟩
def κ__law_state : Kx := ⟨["draws", "facts", "fact"], ["_law_draw"], []⟩
theorem ch__law_state : chSs κ__law_state (defScope (top 27)) b__law_state (defBody (top 27)) = true := by decide +kernel
theorem sc__law_state : FnScope κ__law_state.N ["draws", "facts"] (defScope (top 27)) := ⟨rfl, rfl, rfl, by decide +kernel, rfl, by decide +kernel, by decide +kernel⟩
def κ__law_case : Kx := ⟨["draws", "most", "world", "goal"], ["_law_draw", "_law_pair", "_law_state", "_law_world"], []⟩
theorem ch__law_case : chSs κ__law_case (defScope (top 28)) b__law_case (defBody (top 28)) = true := by decide +kernel
theorem sc__law_case : FnScope κ__law_case.N ["draws", "most"] (defScope (top 28)) := ⟨rfl, rfl, rfl, by decide +kernel, rfl, by decide +kernel, by decide +kernel⟩
def κ__law_of : Kx := ⟨["draws", "some"], ["_law_draw"], []⟩
theorem ch__law_of : chSs κ__law_of (defScope (top 29)) b__law_of (defBody (top 29)) = true := by decide +kernel
theorem sc__law_of : FnScope κ__law_of.N ["draws", "some"] (defScope (top 29)) := ⟨rfl, rfl, rfl, by decide +kernel, rfl, by decide +kernel, by decide +kernel⟩
def κ__law_thing : Kx := ⟨["draws", "deep", "way", "bits", "some", "k"], ["_law_draw", "_law_of", "_law_thing"], []⟩
theorem ch__law_thing : chSs κ__law_thing (defScope (top 30)) b__law_thing (defBody (top 30)) = true := by decide +kernel
theorem sc__law_thing : FnScope κ__law_thing.N ["draws", "deep"] (defScope (top 30)) := ⟨rfl, rfl, rfl, by decide +kernel, rfl, by decide +kernel, by decide +kernel⟩
def κ__law_otherwise : Kx := ⟨["draws", "thing", "deep", "bits", "spot", "way", "word", "number"], ["_law_draw", "_law_of", "_law_otherwise", "_law_thing"], []⟩
theorem ch__law_otherwise : chSs κ__law_otherwise (defScope (top 31)) b__law_otherwise (defBody (top 31)) = true := by decide +kernel
theorem sc__law_otherwise : FnScope κ__law_otherwise.N ["draws", "thing", "deep"] (defScope (top 31)) := ⟨rfl, rfl, rfl, by decide +kernel, rfl, by decide +kernel, by decide +kernel⟩
def κ__law_truly : Kx := ⟨["found", "due"], [], []⟩
theorem ch__law_truly : chSs κ__law_truly (defScope (top 32)) b__law_truly (defBody (top 32)) = true := by decide +kernel
theorem sc__law_truly : FnScope κ__law_truly.N ["found", "due"] (defScope (top 32)) := ⟨rfl, rfl, rfl, by decide +kernel, rfl, by decide +kernel, by decide +kernel⟩
def κ__law_is_place : Kx := ⟨["world", "thing"], ["_law_are_some", "_law_is_whole"], []⟩
theorem ch__law_is_place : chSs κ__law_is_place (defScope (top 33)) b__law_is_place (defBody (top 33)) = true := by decide +kernel
theorem sc__law_is_place : FnScope κ__law_is_place.N ["world", "thing"] (defScope (top 33)) := ⟨rfl, rfl, rfl, by decide +kernel, rfl, by decide +kernel, by decide +kernel⟩
def κ__law_are_deeds : Kx := ⟨["facts", "thing", "most", "long", "last", "one", "change"], ["_law_is_name", "_law_is_pair", "_law_is_whole"], []⟩
theorem ch__law_are_deeds : chSs κ__law_are_deeds (defScope (top 34)) b__law_are_deeds (defBody (top 34)) = true := by decide +kernel
theorem sc__law_are_deeds : FnScope κ__law_are_deeds.N ["facts", "thing", "most", "long"] (defScope (top 34)) := ⟨rfl, rfl, rfl, by decide +kernel, rfl, by decide +kernel, by decide +kernel⟩
def κ__law_is_world : Kx := ⟨["thing", "one"], ["_law_are_deeds", "_law_are_rising", "_law_is_name"], []⟩
theorem ch__law_is_world : chSs κ__law_is_world (defScope (top 35)) b__law_is_world (defBody (top 35)) = true := by decide +kernel
theorem sc__law_is_world : FnScope κ__law_is_world.N ["thing"] (defScope (top 35)) := ⟨rfl, rfl, rfl, by decide +kernel, rfl, by decide +kernel, by decide +kernel⟩
def κ_law : Kx := ⟨["script", "k", "draws", "once", "idle", "things", "names", "thing", "world", "goal", "place", "name"], ["_law_are_some", "_law_case", "_law_draw", "_law_draws", "_law_is_pair", "_law_is_place", "_law_is_world", "_law_otherwise", "_law_thing", "_law_truly", "is_condition", "is_place", "is_state", "is_world"], []⟩
theorem ch_law : chSs κ_law (defScope (top 36)) b_law (defBody (top 36)) = true := by decide +kernel
theorem sc_law : FnScope κ_law.N ["script"] (defScope (top 36)) := ⟨rfl, rfl, rfl, by decide +kernel, rfl, by decide +kernel, by decide +kernel⟩
def hfn : List He.DefD := [dOf "is_between" (top 2), dOf "is_name" (top 3), dOf "rises" (top 4), dOf "are_facts" (top 5), dOf "are_some" (top 6), dOf "is_pair" (top 7), dOf "is_deed" (top 8), dOf "is_meddler" (top 9), dOf "are_named" (top 10), dOf "is_world" (top 11), dOf "is_state" (top 12), dOf "is_condition" (top 13), dOf "is_place" (top 16), dOf "_law_is_name" (top 18), dOf "_law_are_rising" (top 19), dOf "_law_are_some" (top 20), dOf "_law_is_pair" (top 21), dOf "_law_is_whole" (top 22), dOf "_law_draws" (top 23), dOf "_law_draw" (top 24), dOf "_law_pair" (top 25), dOf "_law_world" (top 26), dOf "_law_state" (top 27), dOf "_law_case" (top 28), dOf "_law_of" (top 29), dOf "_law_thing" (top 30), dOf "_law_otherwise" (top 31), dOf "_law_truly" (top 32), dOf "_law_is_place" (top 33), dOf "_law_are_deeds" (top 34), dOf "_law_is_world" (top 35), dOf "law" (top 36)]
def hfa : List He.Fa := [.glo "is_between", .glo "is_name", .glo "rises", .glo "are_facts", .glo "are_some", .glo "is_pair", .glo "is_deed", .glo "is_meddler", .glo "are_named", .glo "is_world", .glo "is_state", .glo "is_condition", .glo "is_place", .glo "_law_is_name", .glo "_law_are_rising", .glo "_law_are_some", .glo "_law_is_pair", .glo "_law_is_whole", .glo "_law_draws", .glo "_law_draw", .glo "_law_pair", .glo "_law_world", .glo "_law_state", .glo "_law_case", .glo "_law_of", .glo "_law_thing", .glo "_law_otherwise", .glo "_law_truly", .glo "_law_is_place", .glo "_law_are_deeds", .glo "_law_is_world", .glo "law", .free "len", .free "tuple", .free "max", .free "min", .free "all", .free "any", .free "int", .free "sum", .free "isinstance", .free "list", .free "sorted", .free "dict", .free "range", .free "zip", .free "enumerate", .free "set", .free "bool", .free "str", .str "LETTERS" "abcdefghijklmnopqrstuvwxyz", .int "MOST" 3]
def names0 : List PySem.Str := ["LETTERS", "is_between", "is_name", "rises", "are_facts", "are_some", "is_pair", "is_deed", "is_meddler", "are_named", "is_world", "is_state", "is_condition", "MOST", "is_place", "_law_is_name", "_law_are_rising", "_law_are_some", "_law_is_pair", "_law_is_whole", "_law_draws", "_law_draw", "_law_pair", "_law_world", "_law_state", "_law_case", "_law_of", "_law_thing", "_law_otherwise", "_law_truly"]
def names1 : List PySem.Str := ["_law_is_place", "_law_are_deeds", "_law_is_world", "__name__"]
def hnames : List PySem.Str := names0 ++ names1
abbrev hR : PySem.W.OpenRow := PySem.W.OpenLaw.row PySem.Challenge.rw_goalhelm_k01_what_is_a_world
abbrev hk : PySem.W.Hook := He.hookD 4 hfa hfn
def hob (s : PySem.W.SharedT) : He.AlD := He.obsDG 4 hfa hfn (HandSHeadRun.getT s)
theorem hob_eq (s : PySem.W.SharedT) : hob s = hk.obs s.abs := He.obsDG_eq (HandSHeadRun.getT_eq s)
theorem hrun (w : World) : HandSHeadRun.RunEq hR (PySem.W.view hR.prog [36]) hk hob 6000 hnames w := by
  intro os
  kernel_rfl
def hgl : List (Str × D) := [("LETTERS", .str letters), ("MOST", .int 3)]
theorem facts {P : Program} {w : World} {K : PySem.W.Frag} {h : Heap} {mg : Str → Option Value} {f : Addr} (KX : K.In h) (GM : h.Ns mainGlobals mg) (hfa' : mg ("law" : Str) = some (.ref f)) (c : He.SaysD hfa hfn K) :
    ∃ fd : FuncData, (∀ (s : Shared) (v : Value), BindsTo s fd ⟨[v], []⟩ [("script", v)]) ∧ ∀ base : Heap, K.In base → base.Ns mainGlobals mg → FnOk P w K mg base L2.CX0 42 f fd ["script"] (LS ⟨K, w, fun _ => none, fun _ => none⟩ sp_law) := by
  obtain ⟨fd, F⟩ := c.def_ 31 (d := dOf "law" (top 36)) rfl
  have e := hfa'.symm.trans (He.glo_ok KX GM (c.fact 31 (f := .glo "law") rfl))
  cases e
  have b := FunD.bindsA (ps := ["script"]) F fun _ _ _ _ _ _ us hl => match us, hl with | [_], _ => rfl
  refine ⟨fd, fun s v => b s [v] rfl, fun base _ _ => ?_⟩
  let W : Wd := ⟨K, w, fun _ => none, fun _ => none⟩
  have G0 : Gx (mkΓ hgl []) W P mg base 0 := gx_nil (hf_cons (He.free_ok KX GM (c.fact 32 (f := .free "len") rfl)) (hf_cons (He.free_ok KX GM (c.fact 33 (f := .free "tuple") rfl)) (hf_cons (He.free_ok KX GM (c.fact 34 (f := .free "max") rfl)) (hf_cons (He.free_ok KX GM (c.fact 35 (f := .free "min") rfl)) (hf_cons (He.free_ok KX GM (c.fact 36 (f := .free "all") rfl)) (hf_cons (He.free_ok KX GM (c.fact 37 (f := .free "any") rfl)) (hf_cons (He.free_ok KX GM (c.fact 38 (f := .free "int") rfl)) (hf_cons (He.free_ok KX GM (c.fact 39 (f := .free "sum") rfl)) (hf_cons (He.free_ok KX GM (c.fact 40 (f := .free "isinstance") rfl)) (hf_cons (He.free_ok KX GM (c.fact 41 (f := .free "list") rfl)) (hf_cons (He.free_ok KX GM (c.fact 42 (f := .free "sorted") rfl)) (hf_cons (He.free_ok KX GM (c.fact 43 (f := .free "dict") rfl)) (hf_cons (He.free_ok KX GM (c.fact 44 (f := .free "range") rfl)) (hf_cons (He.free_ok KX GM (c.fact 45 (f := .free "zip") rfl)) (hf_cons (He.free_ok KX GM (c.fact 46 (f := .free "enumerate") rfl)) (hf_cons (He.free_ok KX GM (c.fact 47 (f := .free "set") rfl)) (hf_cons (He.free_ok KX GM (c.fact 48 (f := .free "bool") rfl)) (hf_cons (He.free_ok KX GM (c.fact 49 (f := .free "str") rfl)) (hf_nil))))))))))))))))))) (gl_cons (gl_str (He.str_ok KX GM (c.fact 50 (f := .str "LETTERS" "abcdefghijklmnopqrstuvwxyz") rfl))) (gl_cons (gl_int (He.int_ok KX GM (c.fact 51 (f := .int "MOST" 3) rfl))) (gl_nil)))
  have G1 := gx_def (sp := sp_is_between) KX GM c 0 0 rfl rfl G0 sc_is_between ch_is_between (fun _ _ _ _ _ _ us hl => match us, hl with | [_, _, _], _ => rfl) (hf_nil) rfl (d_is_between)
  have G2 := gx_def (sp := sp_is_name) KX GM c 1 1 rfl rfl G1 sc_is_name ch_is_name (fun _ _ _ _ _ _ us hl => match us, hl with | [_], _ => rfl) (hf_nil) rfl (d_is_name rfl)
  have G3 := gx_def (sp := sp_rises) KX GM c 2 2 rfl rfl G2 sc_rises ch_rises (fun _ _ _ _ _ _ us hl => match us, hl with | [_], _ => rfl) (hf_nil) rfl (d_rises)
  have G4 := gx_def (sp := sp_are_facts) KX GM c 3 3 rfl rfl G3 sc_are_facts ch_are_facts (fun _ _ _ _ _ _ us hl => match us, hl with | [_], _ => rfl) (hf_cons ⟨_, rfl⟩ (hf_cons ⟨_, rfl⟩ (hf_nil))) rfl (d_are_facts rfl rfl)
  have G5 := gx_def (sp := sp_are_some) KX GM c 4 4 rfl rfl G4 sc_are_some ch_are_some (fun _ _ _ _ _ _ us hl => match us, hl with | [_, _], _ => rfl) (hf_cons ⟨_, rfl⟩ (hf_nil)) rfl (d_are_some rfl)
  have G6 := gx_def (sp := sp_is_pair) KX GM c 5 5 rfl rfl G5 sc_is_pair ch_is_pair (fun _ _ _ _ _ _ us hl => match us, hl with | [_, _], _ => rfl) (hf_cons ⟨_, rfl⟩ (hf_nil)) rfl (d_is_pair rfl)
  have G7 := gx_def (sp := sp_is_deed) KX GM c 6 6 rfl rfl G6 sc_is_deed ch_is_deed (fun _ _ _ _ _ _ us hl => match us, hl with | [_, _], _ => rfl) (hf_cons ⟨_, rfl⟩ (hf_cons ⟨_, rfl⟩ (hf_cons ⟨_, rfl⟩ (hf_nil)))) rfl (d_is_deed rfl rfl rfl)
  have G8 := gx_def (sp := sp_is_meddler) KX GM c 7 7 rfl rfl G7 sc_is_meddler ch_is_meddler (fun _ _ _ _ _ _ us hl => match us, hl with | [_, _], _ => rfl) (hf_cons ⟨_, rfl⟩ (hf_cons ⟨_, rfl⟩ (hf_nil))) rfl (d_is_meddler rfl rfl)
  have G9 := gx_def (sp := sp_are_named) KX GM c 8 8 rfl rfl G8 sc_are_named ch_are_named (fun _ _ _ _ _ _ us hl => match us, hl with | [_, _], _ => rfl) (hf_cons ⟨_, rfl⟩ (hf_nil)) rfl (d_are_named rfl)
  have G10 := gx_def (sp := sp_is_world) KX GM c 9 9 rfl rfl G9 sc_is_world ch_is_world (fun _ _ _ _ _ _ us hl => match us, hl with | [_], _ => rfl) (hf_cons ⟨_, rfl⟩ (hf_cons ⟨_, rfl⟩ (hf_cons ⟨_, rfl⟩ (hf_cons ⟨_, rfl⟩ (hf_nil))))) rfl (d_is_world rfl rfl rfl rfl)
  have G11 := gx_def (sp := sp_is_state) KX GM c 10 10 rfl rfl G10 sc_is_state ch_is_state (fun _ _ _ _ _ _ us hl => match us, hl with | [_, _], _ => rfl) (hf_cons ⟨_, rfl⟩ (hf_nil)) rfl (d_is_state rfl)
  have G12 := gx_def (sp := sp_is_condition) KX GM c 11 11 rfl rfl G11 sc_is_condition ch_is_condition (fun _ _ _ _ _ _ us hl => match us, hl with | [_, _], _ => rfl) (hf_cons ⟨_, rfl⟩ (hf_nil)) rfl (d_is_condition rfl)
  have G13 := gx_def (sp := sp_is_place) KX GM c 12 12 rfl rfl G12 sc_is_place ch_is_place (fun _ _ _ _ _ _ us hl => match us, hl with | [_, _], _ => rfl) (hf_cons ⟨_, rfl⟩ (hf_cons ⟨_, rfl⟩ (hf_nil))) rfl (d_is_place rfl rfl rfl)
  have G14 := gx_def (sp := sp_is_name) KX GM c 13 13 rfl rfl G13 sc__law_is_name ch__law_is_name (fun _ _ _ _ _ _ us hl => match us, hl with | [_], _ => rfl) (hf_nil) rfl (d__law_is_name)
  have G15 := gx_def (sp := sp__law_are_rising) KX GM c 14 14 rfl rfl G14 sc__law_are_rising ch__law_are_rising (fun _ _ _ _ _ _ us hl => match us, hl with | [_], _ => rfl) (hf_nil) rfl (d__law_are_rising)
  have G16 := gx_def (sp := sp_are_some) KX GM c 15 15 rfl rfl G15 sc__law_are_some ch__law_are_some (fun _ _ _ _ _ _ us hl => match us, hl with | [_, _], _ => rfl) (hf_cons ⟨_, rfl⟩ (hf_nil)) rfl (d__law_are_some rfl)
  have G17 := gx_def (sp := sp_is_pair) KX GM c 16 16 rfl rfl G16 sc__law_is_pair ch__law_is_pair (fun _ _ _ _ _ _ us hl => match us, hl with | [_, _], _ => rfl) (hf_cons ⟨_, rfl⟩ (hf_nil)) rfl (d__law_is_pair rfl)
  have G18 := gx_def (sp := sp_is_between) KX GM c 17 17 rfl rfl G17 sc__law_is_whole ch__law_is_whole (fun _ _ _ _ _ _ us hl => match us, hl with | [_, _, _], _ => rfl) (hf_nil) rfl (d__law_is_whole)
  have G19 := gx_def (sp := sp__law_draws) KX GM c 18 18 rfl rfl G18 sc__law_draws ch__law_draws (fun _ _ _ _ _ _ us hl => match us, hl with | [_, _], _ => rfl) (hf_nil) rfl (d__law_draws)
  have G20 := gx_def (sp := sp__law_draw) KX GM c 19 19 rfl rfl G19 sc__law_draw ch__law_draw (fun _ _ _ _ _ _ us hl => match us, hl with | [_, _], _ => rfl) (hf_nil) rfl (d__law_draw)
  have G21 := gx_def (sp := sp__law_pair) KX GM c 20 20 rfl rfl G20 sc__law_pair ch__law_pair (fun _ _ _ _ _ _ us hl => match us, hl with | [_, _, _], _ => rfl) (hf_cons ⟨_, rfl⟩ (hf_nil)) rfl (d__law_pair rfl)
  have G22 := gx_def (sp := sp__law_world) KX GM c 21 21 rfl rfl G21 sc__law_world ch__law_world (fun _ _ _ _ _ _ us hl => match us, hl with | [_, _], _ => rfl) (hf_cons ⟨_, rfl⟩ (hf_cons ⟨_, rfl⟩ (hf_nil))) rfl (d__law_world rfl rfl)
  have G23 := gx_def (sp := sp__law_state) KX GM c 22 22 rfl rfl G22 sc__law_state ch__law_state (fun _ _ _ _ _ _ us hl => match us, hl with | [_, _], _ => rfl) (hf_cons ⟨_, rfl⟩ (hf_nil)) rfl (d__law_state rfl)
  have G24 := gx_def (sp := sp__law_case) KX GM c 23 23 rfl rfl G23 sc__law_case ch__law_case (fun _ _ _ _ _ _ us hl => match us, hl with | [_, _], _ => rfl) (hf_cons ⟨_, rfl⟩ (hf_cons ⟨_, rfl⟩ (hf_cons ⟨_, rfl⟩ (hf_cons ⟨_, rfl⟩ (hf_nil))))) rfl (d__law_case rfl rfl rfl rfl)
  have G25 := gx_def (sp := sp__law_of) KX GM c 24 24 rfl rfl G24 sc__law_of ch__law_of (fun _ _ _ _ _ _ us hl => match us, hl with | [_, _], _ => rfl) (hf_cons ⟨_, rfl⟩ (hf_nil)) rfl (d__law_of rfl)
  have G26 := gx_void (sp := (spT 0)) KX GM c 25 25 rfl rfl G25 sc__law_thing (fun _ _ _ _ ⟨_, _, _, h, _⟩ => Nat.not_lt_zero _ h) (fun _ _ _ _ _ _ us hl => match us, hl with | [_, _], _ => rfl)
  have G27 := gx_def (sp := (spT 1)) KX GM c 25 25 rfl rfl G26 sc__law_thing ch__law_thing (fun _ _ _ _ _ _ us hl => match us, hl with | [_, _], _ => rfl) (hf_cons ⟨_, rfl⟩ (hf_cons ⟨_, rfl⟩ (hf_cons ⟨_, rfl⟩ (hf_nil)))) rfl (d__law_thing rfl rfl rfl)
  have G28 := gx_def (sp := (spT 2)) KX GM c 25 25 rfl rfl G27 sc__law_thing ch__law_thing (fun _ _ _ _ _ _ us hl => match us, hl with | [_, _], _ => rfl) (hf_cons ⟨_, rfl⟩ (hf_cons ⟨_, rfl⟩ (hf_cons ⟨_, rfl⟩ (hf_nil)))) rfl (d__law_thing rfl rfl rfl)
  have G29 := gx_def (sp := (spT 3)) KX GM c 25 25 rfl rfl G28 sc__law_thing ch__law_thing (fun _ _ _ _ _ _ us hl => match us, hl with | [_, _], _ => rfl) (hf_cons ⟨_, rfl⟩ (hf_cons ⟨_, rfl⟩ (hf_cons ⟨_, rfl⟩ (hf_nil)))) rfl (d__law_thing rfl rfl rfl)
  have G30 := gx_def (sp := (spT 4)) KX GM c 25 25 rfl rfl G29 sc__law_thing ch__law_thing (fun _ _ _ _ _ _ us hl => match us, hl with | [_, _], _ => rfl) (hf_cons ⟨_, rfl⟩ (hf_cons ⟨_, rfl⟩ (hf_cons ⟨_, rfl⟩ (hf_nil)))) rfl (d__law_thing rfl rfl rfl)
  have G31 := gx_void (sp := (spO 0)) KX GM c 26 26 rfl rfl G30 sc__law_otherwise (fun _ _ _ _ ⟨_, _, _, _, _, _, _, h, _⟩ => Nat.not_lt_zero _ h) (fun _ _ _ _ _ _ us hl => match us, hl with | [_, _, _], _ => rfl)
  have G32 := gx_def (sp := (spO 1)) KX GM c 26 26 rfl rfl G31 sc__law_otherwise ch__law_otherwise (fun _ _ _ _ _ _ us hl => match us, hl with | [_, _, _], _ => rfl) (hf_cons ⟨_, rfl⟩ (hf_cons ⟨_, rfl⟩ (hf_cons ⟨_, rfl⟩ (hf_cons ⟨_, rfl⟩ (hf_nil))))) rfl (d__law_otherwise rfl rfl rfl rfl)
  have G33 := gx_def (sp := (spO 2)) KX GM c 26 26 rfl rfl G32 sc__law_otherwise ch__law_otherwise (fun _ _ _ _ _ _ us hl => match us, hl with | [_, _, _], _ => rfl) (hf_cons ⟨_, rfl⟩ (hf_cons ⟨_, rfl⟩ (hf_cons ⟨_, rfl⟩ (hf_cons ⟨_, rfl⟩ (hf_nil))))) rfl (d__law_otherwise rfl rfl rfl rfl)
  have G34 := gx_def (sp := (spO 3)) KX GM c 26 26 rfl rfl G33 sc__law_otherwise ch__law_otherwise (fun _ _ _ _ _ _ us hl => match us, hl with | [_, _, _], _ => rfl) (hf_cons ⟨_, rfl⟩ (hf_cons ⟨_, rfl⟩ (hf_cons ⟨_, rfl⟩ (hf_cons ⟨_, rfl⟩ (hf_nil))))) rfl (d__law_otherwise rfl rfl rfl rfl)
  have G35 := gx_def (sp := (spO 4)) KX GM c 26 26 rfl rfl G34 sc__law_otherwise ch__law_otherwise (fun _ _ _ _ _ _ us hl => match us, hl with | [_, _, _], _ => rfl) (hf_cons ⟨_, rfl⟩ (hf_cons ⟨_, rfl⟩ (hf_cons ⟨_, rfl⟩ (hf_cons ⟨_, rfl⟩ (hf_nil))))) rfl (d__law_otherwise rfl rfl rfl rfl)
  have G36 := gx_def (sp := (spO 5)) KX GM c 26 26 rfl rfl G35 sc__law_otherwise ch__law_otherwise (fun _ _ _ _ _ _ us hl => match us, hl with | [_, _, _], _ => rfl) (hf_cons ⟨_, rfl⟩ (hf_cons ⟨_, rfl⟩ (hf_cons ⟨_, rfl⟩ (hf_cons ⟨_, rfl⟩ (hf_nil))))) rfl (d__law_otherwise rfl rfl rfl rfl)
  have G37 := gx_def (sp := (spO 6)) KX GM c 26 26 rfl rfl G36 sc__law_otherwise ch__law_otherwise (fun _ _ _ _ _ _ us hl => match us, hl with | [_, _, _], _ => rfl) (hf_cons ⟨_, rfl⟩ (hf_cons ⟨_, rfl⟩ (hf_cons ⟨_, rfl⟩ (hf_cons ⟨_, rfl⟩ (hf_nil))))) rfl (d__law_otherwise rfl rfl rfl rfl)
  have G38 := gx_def (sp := sp__law_truly) KX GM c 27 27 rfl rfl G37 sc__law_truly ch__law_truly (fun _ _ _ _ _ _ us hl => match us, hl with | [_, _], _ => rfl) (hf_nil) rfl (d__law_truly)
  have G39 := gx_def (sp := sp_is_place) KX GM c 28 28 rfl rfl G38 sc__law_is_place ch__law_is_place (fun _ _ _ _ _ _ us hl => match us, hl with | [_, _], _ => rfl) (hf_cons ⟨_, rfl⟩ (hf_cons ⟨_, rfl⟩ (hf_nil))) rfl (d__law_is_place rfl rfl)
  have G40 := gx_def (sp := sp__law_are_deeds) KX GM c 29 29 rfl rfl G39 sc__law_are_deeds ch__law_are_deeds (fun _ _ _ _ _ _ us hl => match us, hl with | [_, _, _, _], _ => rfl) (hf_cons ⟨_, rfl⟩ (hf_cons ⟨_, rfl⟩ (hf_cons ⟨_, rfl⟩ (hf_nil)))) rfl (d__law_are_deeds rfl rfl rfl)
  have G41 := gx_def (sp := sp_is_world) KX GM c 30 30 rfl rfl G40 sc__law_is_world ch__law_is_world (fun _ _ _ _ _ _ us hl => match us, hl with | [_], _ => rfl) (hf_cons ⟨_, rfl⟩ (hf_cons ⟨_, rfl⟩ (hf_cons ⟨_, rfl⟩ (hf_nil)))) rfl (d__law_is_world rfl rfl rfl)
  exact fn_okD G41 F sc_law (hf_cons ⟨_, rfl⟩ (hf_cons ⟨_, rfl⟩ (hf_cons ⟨_, rfl⟩ (hf_cons ⟨_, rfl⟩ (hf_cons ⟨_, rfl⟩ (hf_cons ⟨_, rfl⟩ (hf_cons ⟨_, rfl⟩ (hf_cons ⟨_, rfl⟩ (hf_cons ⟨_, rfl⟩ (hf_cons ⟨_, rfl⟩ (hf_cons ⟨_, rfl⟩ (hf_cons ⟨_, rfl⟩ (hf_cons ⟨_, rfl⟩ (hf_cons ⟨_, rfl⟩ (hf_nil))))))))))))))) (fun c m e => by cases e) ch_law (d_law ⟨rfl, rfl, rfl, rfl, rfl, rfl, rfl, rfl, rfl, rfl, rfl, rfl, rfl, rfl⟩)
end G
open PySem PySem.W PySem.Calls PyProof.Rows
set_option maxRecDepth 100000 in
set_option maxHeartbeats 0 in
theorem PySem.Challenge.cw_goalhelm_k01_what_is_a_world_holds : PySem.Challenge.rw_goalhelm_k01_what_is_a_world.Holds := by
  w_on; o_law
  refine HandSHeadRun.head_any (r := OpenLaw.row PySem.Challenge.rw_goalhelm_k01_what_is_a_world) (q := view (OpenLaw.row PySem.Challenge.rw_goalhelm_k01_what_is_a_world).prog [36]) (H := G.hk) (ob := G.hob) (M := 6000) (loose := G.hnames) (d := HandSHeadRun.topDef (OpenLaw.row PySem.Challenge.rw_goalhelm_k01_what_is_a_world).prog 36) (kwd := []) G.hob_eq
    (by kernel_rfl) (fun s => by kernel_rfl) G.hrun (by kernel_rfl) (by kernel_rfl) (by kernel_rfl) (by rfl) (by first | assumption | decide +kernel) (by decide +kernel) ⟨rfl, rfl, rfl, rfl, rfl, by decide +kernel⟩ ?hw ?hc
  case hw => w_witness2
  case hc =>
    refine L2.walk_ofE (l := PySem.Challenge.rw_goalhelm_k01_what_is_a_world) (n := 63) (k := 42) (x := "script") (CX := L2.CX0) rfl (by decide) (by kernel_rfl) ⟨rfl, by decide, by decide⟩ ?F (fun _ _ _ _ z => z)
    intro w mg fa h Y GM hmg0
    obtain ⟨K, KX, c⟩ := Y
    have hmg : mg ("law" : PySem.Str) = some (.ref fa) := by
      have e : (HandSHeadRun.topDef (OpenLaw.row PySem.Challenge.rw_goalhelm_k01_what_is_a_world).prog 36).name = ("law" : PySem.Str) := by kernel_rfl
      rw [← e]
      exact hmg0
    obtain ⟨fd, hb, hF⟩ := G.facts (P := (PySem.Challenge.rw_goalhelm_k01_what_is_a_world).prog) (w := w) KX GM hmg c
    exact ⟨K, fd, _, KX, hb, fun H a ns hl hO hS => G.end_law hl hO hS, hF⟩
#print axioms PySem.Challenge.cw_goalhelm_k01_what_is_a_world_holds
