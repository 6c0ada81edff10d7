import PyProof.Rows.All
import Wide.All
import OpenK.AllK
import Wide.FinOn
import HandS.ForMost
import HandS.TupAny
import HandS.TupMul
import HandS.Wide
import HandS.Style
import HandS.Deep
import KE.KDictKeyed
import HandS.Lambda
import KE.SortData
import PyProof.P3In
import HandS.TupLe
import KE.DataCmp
import HandS.Flow
import HandS.Zip
import HandS.Walk
import HandS.IsInst
import HandS.More
import HandS.Codes
import HandS.TupLen
import HandS.SetKeys
import KE.KDictCopyH
import KE.KDictDisplayH
import KE.KDictPairs
import KE.DataMinMax
import KE.KDictSum
import HandS.DictTup
import HandS.DictComp
import KE.KStateDown
import HandS.Ends
import HandS.Words
import HandS.WordsExc
import HandS.Defaults
import HandS.Head0
import HandS.Head1
import HandS.Head2
import HandS.HeadEnd
import HandS.HeadHook1
import HandS.HeadHook2
import PySem.Challenge.RW_goalhelm_k14_whole_nothing_gets_cheaper
set_option Elab.async false
set_option linter.all false
set_option maxRecDepth 100000
set_option maxHeartbeats 0
/-! New tuples, told by their very objects. -/
namespace G
open PySem PySem.Spec PyProof.Rows L2
section
variable {X : Cx} {pins : List (Addr × Obj)} {σ : L2.St} {H : Hp} {s : Shared} {Q : VK}
/-- what a new tuple's object asks -/
def NewT (H : Hp) (xs : List V) (Q : VK) : Prop := ∀ p o, H p = none → o.dict = none → Q (.ref p) (upd H p (.frz o (.tup xs)))
theorem tup_new {xs : List V} {us : List Value} {h' : Heap} {t : Nat} (I : Inv X pins σ H s) (kp : ∀ b o, s.heap.get? b = some o → h'.get? b = some o) (r : Vals xs us) (z : xs.length ≤ sizeLine) (q : NewT H xs Q) :
    EP X pins σ Q (.ref h'.objs.size) { s with heap := h'.push { cls := .type "tuple", data := .seq us.toArray }, toks := t } := by
  have J : Inv X pins σ H { s with heap := h', toks := t } := I.kept (t' := t) kp
  have new : ObjOk X.prog X.w (upd H h'.objs.size (.frz { cls := .type "tuple", data := .seq us.toArray } (.tup xs))) (h'.push { cls := .type "tuple", data := .seq us.toArray }) h'.objs.size (.frz { cls := .type "tuple", data := .seq us.toArray } (.tup xs)) :=
    ⟨Heap.get?_push_size _ rfl, z, us, r, IsTup.new _ _⟩
  exact ⟨.ref h'.objs.size, _, J.laid (t' := t) (fun b u e => Heap.get?_push_of_some _ e) (Nat.le_refl _) new, rfl, q _ _ (J.hok.fresh (Nat.le_refl _)) rfl⟩
theorem tup_new0 {xs : List V} {us : List Value} {t : Nat} (I : Inv X pins σ H s) (r : Vals xs us) (z : xs.length ≤ sizeLine) (q : NewT H xs Q) :
    EP X pins σ Q (.ref s.heap.objs.size) { s with heap := s.heap.push { cls := .type "tuple", data := .seq us.toArray }, toks := t } := tup_new I (fun _ _ e => e) r z q
end
section
variable {X : Cx} {pos : Pos}
def xTup (t : TA) : TE := fun σ H Q => t σ H fun xs H1 => xs.length ≤ sizeLine ∧ NewT H1 xs Q
theorem pe_xTup {es : List Expr} {t : TA} {k : Nat} (h : PA X es t) : PE X (.Tuple es k pos) (xTup t) :=
  ⟨fun pins s σ H Q I hq => wpAny_Tuple_spliced (thn (h.run pos pins s σ H _ I hq) fun us s1 ⟨xs, H1, I1, r, z, q⟩ => ⟨by rw [← r.length]; exact z, tup_new0 I1 r z q⟩)⟩
/-- t + u -/
def xCat (K : PySem.W.Frag) : R2 := fun x y H Q => ∃ a b xs ys, x = .ref a ∧ y = .ref b ∧ SqT K H a xs ∧ SqT K H b ys ∧ xs.length + ys.length ≤ sizeLine ∧
  (xs = [] → Q (.ref b) H) ∧ (xs ≠ [] → ys = [] → Q (.ref a) H) ∧ (xs ≠ [] → ys ≠ [] → NewT H (xs ++ ys) Q)
theorem op_xCat : OpR X (binaryOp .Add) (xCat X.K) := by
  intro pins s σ H x y v u Q I rx ry ⟨a, b, xs, ys, e1, e2, ha, hb, hz, q0, q1, q2⟩
  subst e1 e2
  cases rx; cases ry
  obtain ⟨us, r1, p1, z1⟩ := I.tuple ha
  obtain ⟨ws, r2, p2, z2⟩ := I.tuple hb
  by_cases hx : xs = []
  · subst hx
    cases r1
    exact cat_tup0 p1 p2 ⟨.ref b, H, I, rfl, q0 rfl⟩
  · exact HT.cat_tup p1 p2 (fun z => hx (r1.nil_iff.mp z)) (fun z => ⟨.ref a, H, I, rfl, q1 hx (r2.nil_iff.mp z)⟩)
      (fun z => tup_new0 I (r1.append r2) (by rw [List.length_append]; exact hz) (q2 hx fun w => z (r2.nil_iff.mpr w))) (by rw [← r1.length, ← r2.length]; exact hz)
/-- t[lo:hi] -/
def xSl (K : PySem.W.Frag) : V → Option Int → Option Int → Hp → VK → Prop := fun x lo hi H Q => ∃ a xs, x = .ref a ∧ SqT K H a xs ∧
  (HT.sIx xs.length 0 lo = 0 ∧ HT.sIx xs.length xs.length hi = xs.length → Q (.ref a) H) ∧ (¬ (HT.sIx xs.length 0 lo = 0 ∧ HT.sIx xs.length xs.length hi = xs.length) → NewT H (cutV xs lo hi) Q)
theorem sl_x : SlR X (xSl X.K) := by
  intro pins s σ H x v vl vu lo hi sl Q I rx hs pl pu ⟨a, xs, e, hx, q1, q2⟩
  subst e
  cases rx
  obtain ⟨us, r, ht, hz⟩ := I.tuple hx
  have hl : us.toArray.size = xs.length := by rw [List.size_toArray]; exact r.length.symm
  refine ⟨"tuple", _, PyProof.Rows.slot_tuple_getitem.lookup, ht.typeIs, ?_⟩
  by_cases hw : HT.sIx xs.length 0 lo = 0 ∧ HT.sIx xs.length xs.length hi = xs.length
  · exact getItem_tuple_whole ht hs pl pu (by rw [hl]; exact hw) ⟨.ref a, H, I, rfl, q1 hw⟩
  · refine HT.getItem_tuple_cut ht hs pl pu (by rw [hl]; exact hw) ?_ (by rw [hl]; exact hz)
    rw [hl]
    exact tup_new0 I ((r.drop _).take _) (Nat.le_trans (cutV_length xs lo hi) hz) (q2 hw)
/-- tuple(x) -/
def xTo (K : PySem.W.Frag) : List V → Hp → VK → Prop := fun xs H Q => ∃ p ys, xs = [.ref p] ∧ ((SqL K H p ys ∧ NewT H ys Q) ∨ (SqT K H p ys ∧ Q (.ref p) H))
theorem cr_xTo : CallR X (.type "tuple") (xTo X.K) := by
  intro pins s σ H xs us Q I r ⟨p, ys, e, h⟩
  subst e
  obtain ⟨u, rfl, rx⟩ := vals1 r
  cases rx
  rcases h with ⟨hq, q⟩ | ⟨hq, q⟩
  · obtain ⟨ws, r', pl, hz⟩ := I.list hq
    exact call_tuple_list pl.isList (fun h' kp => tup_new (t := s.toks) I kp r' hz q) (by rw [List.size_toArray, ← r'.length]; exact hz)
  · obtain ⟨ws, r', pl, hz⟩ := I.tuple hq
    exact call_tuple_same pl ⟨.ref p, H, I, rfl, q⟩
/-- t * n -/
def xRep (K : PySem.W.Frag) : R2 := fun x y H Q => ∃ l k xs, x = .ref l ∧ y = .int k ∧ SqT K H l xs ∧ xs ≠ [] ∧ 2 ≤ k ∧ k ≤ 1000 ∧ xs.length ≤ 1000 ∧ NewT H (List.replicate k.toNat xs).flatten Q
theorem op_xRep : OpR X (binaryOp .Mult) (xRep X.K) := by
  intro pins s σ H x y v u Q I rx ry ⟨l, k, xs, e1, e2, hT, hne, h1, h2, hz, q⟩
  subst e1 e2
  cases rx
  obtain ⟨t, rfl⟩ := ry
  obtain ⟨us, r, ⟨⟨cls, dd, data, sl⟩, ho, hc, n, hd⟩, hs⟩ := I.tuple hT
  simp only at hc hd
  subst hc hd
  have hle : us.length = xs.length := r.length.symm
  have hn : us ≠ [] := fun e => hne (r.nil_iff.mp e)
  have hi : us.toArray.isEmpty = false := by
    cases us with
    | nil => exact absurd rfl hn
    | cons a b => rfl
  have a1 : k.toNat * xs.length ≤ 1000 * 1000 := Nat.mul_le_mul (by omega) hz
  have flen : (List.replicate k.toNat us).flatten.length ≤ sizeLine := by
    rw [PyProof.Rows.lm_len_rep_flat, hle, sizeLine_eq]
    omega
  have hm : ((us.toArray.size : Nat) : Int) * k ≤ 1000000 := by
    rw [List.size_toArray, hle]
    have a2 : ((xs.length : Nat) : Int) * k ≤ 1000 * k := Int.mul_le_mul_of_nonneg_right (by omega) (by omega)
    omega
  have c4 : Builtin.Tuple.tupleTooMany (((us.toArray.size : Nat) : Int) * k) = false := by
    unfold Builtin.Tuple.tupleTooMany
    rw [sizeLine_eq]
    exact decide_eq_false (by omega)
  refine wpAny_binaryOp_repeat_ref (T := "tuple") (U := "int") (by decide) ⟨_, ho, rfl⟩ (fun s' => typeIs_int s' k t) noFill_tuple_mul F.fills_int_mul F.slot_int_rmul repeat_tuple F.slot_int_index.lookup
    (call_meets F.slot_int_rmul (typeIs_int s k t) F.entry_int_rmul (F.args_int_rmul_2 _ _) (int_rmul_tuple k t l us.toArray n dd sl)
      ⟨ho, rfl, ⟨_, ho, rfl⟩, call_meets F.slot_tuple_mul ⟨_, ho, rfl⟩ F.entry_tuple_mul (F.args_tuple_mul_2 _ _) (tuple_mulW l us.toArray n dd sl k t (by rw [decide_eq_false (by omega), decide_eq_false (by omega)] <;> rfl)
        (by rw [hi, Bool.false_or]; exact beq_eq_false_iff_ne.mpr (by omega)) (by rw [hi, Bool.or_false]; exact decide_eq_false (by omega)) (by omega) c4 (by rw [size_rep, List.size_toArray]; exact flen)) ⟨ho, ?_⟩⟩)
  rw [size_rep]
  exact tup_new0 I (r.rep k.toNat) (by rw [PyProof.Rows.lm_len_rep_flat, sizeLine_eq]; omega) q
end
end G
/-! The small language: values, stores, syntax, its reading. -/
namespace G
open PySem L2

/-! ### values -/
inductive D where
  | non | bl (b : Bool) | int (i : Int) | str (x : Str)
  | tup (xs : List D) | lst (xs : List D) | dct (kvs : List (D × D))
  | ins (c : Str) (fs : List (Str × D)) | loc (a : Addr) | clo (n : Nat)
  /-- a list that is never changed (the script) -/
  | ro (xs : List D)
  /-- a pair that a walk hands out -/
  | pr (x y : D)
  deriving Inhabited

namespace D
mutual
def eqv : D → D → Bool
  | .non, .non => true
  | .bl a, .bl b => a == b
  | .int a, .int b => decide (a = b)
  | .bl a, .int b => decide ((if a then 1 else 0) = b)
  | .int a, .bl b => decide (a = (if b then 1 else 0))
  | .str a, .str b => decide (a = b)
  | .tup a, .tup b => eqvs a b
  | .lst a, .lst b => eqvs a b
  | _, _ => false
def eqvs : List D → List D → Bool
  | [], [] => true
  | a :: as, b :: bs => eqv a b && eqvs as bs
  | _, _ => false
end
mutual
/-- plain data, at most so deep -/
def dat : Nat → D → Bool
  | _, .non => true
  | _, .bl _ => true
  | _, .int _ => true
  | _, .str x => PyData.strOk x
  | n, .tup xs => match n with | 0 => false | n + 1 => dats n xs
  | n, .lst xs => match n with | 0 => false | n + 1 => dats n xs
  | _, _ => false
def dats : Nat → List D → Bool
  | _, [] => true
  | n, x :: xs => dat n x && dats n xs
end
mutual
/-- the order of data of one kind -/
def lt : D → D → Bool
  | .int a, .int b => decide (a < b)
  | .str a, .str b => decide (a.cps.toList < b.cps.toList)
  | .tup a, .tup b => lts a b
  | _, _ => false
def lts : List D → List D → Bool
  | [], [] => false
  | [], _ :: _ => true
  | _ :: _, [] => false
  | a :: as, b :: bs => if eqv a b then lts as bs else lt a b
end
mutual
/-- data of one kind: they can be put in order -/
def alike : D → D → Bool
  | .int _, .int _ => true
  | .str _, .str _ => true
  | .tup a, .tup b => alikes a b
  | _, _ => false
def alikes : List D → List D → Bool
  | a :: as, b :: bs => alike a b && alikes as bs
  | _, _ => true
end
end D

/-! ### the store of what can change -/
/-- a dict with its count of changes -/
inductive Ob where
  | lst (xs : List D) | dct (kvs : List (D × D)) (ep : Nat) | ins (c : Str) (fs : List (Str × D))
abbrev Store := Addr → Option Ob
def Store.set (st : Store) (a : Addr) (o : Ob) : Store := fun b => if b = a then some o else st b
abbrev Env := List (Option D)
abbrev Post := D → Store → Prop
/-- an exception: its class, its field -/
abbrev XPost := Str → Option D → Store → Prop
abbrev Spec := List D → Store → Post → XPost → Prop
structure Ctx where
  fn : Str → Option Spec
  me : Str → Str → Option Spec
  gl : Str → Option D
  /-- the attributes of a class's instances -/
  cf : Str → Str → Bool
  cl : Nat → Spec
  /-- defs that get a closure behind their other arguments: by what the closure does -/
  hf : Str → Option (Spec → Spec) := fun _ => none

/-! ### syntax -/
mutual
inductive Pt where
  | var (i : Nat) | tup (ps : Pts)
inductive Pts where
  | nil | cons (p : Pt) (ps : Pts)
end
/-- what built-ins give that change nothing -/
inductive Bi where
  | len | tuple | max | min | all | any | int | sum
  deriving DecidableEq
inductive Ty where
  | int | bool | str | tuple | list | cls (c : Str)
  deriving DecidableEq
mutual
inductive E where
  | var (i : Nat) | non | bl (b : Bool) | int (i : Int) | str (x : Str) | glo (x : Str)
  | tup (es : Es)
  | fr (p : P) | bx (p : P)
  | bin (o : Operator) (a b : E) | neg (a : E)
  | cmp (o : CmpOp) (a b : E) | cmp2 (o o' : CmpOp) (a b c : E)
  | bop (isAnd : Bool) (es : Es) | orv (a b : E) | not (a : E) | ite (t a b : E)
  | idx (a i : E) | slc (a : E) (lo hi : Bd) | rev (a : E)
  | bi (b : Bi) (a : E) | mx (isMax : Bool) (a b : E) | mxd (isMax : Bool) (a b : E) | isi (a : E) (ts : List Ty)
  | app (o e : E) | pop (o : E) | popAt (o i : E) | ins (o i e : E)
  | upper (o : E) | join (o e : E) | get (o i : E) | getd (o i e : E) | setd (o i e : E) | upd (o e : E)
  | att (o : E) (f : Str)
  | call (f : Str) (es : Es) | mcl (c m : Str) (o : E) (es : Es) | new (c : Str) (es : Es) | clv (i : Nat) (es : Es)
  | callk (f : Str) (ks : List Nat) (es : Es) | callL (f : Str) (es : Es) (own : List Nat) (b : E) | maxk (a : E) (own : Nat) (b : E)
  | frz (e : E)
/-- what makes a new list or dict -/
inductive P where
  | disp (es : Es) | cat (a b : E) | rep (a n : E) | slc (a : E) (lo hi : Bd) | rev (a : E) | list (a : E) | sorted (a : E)
  | comp (own : List Nat) (p : Pt) (it : It) (elt : E) | compif (own : List Nat) (p : Pt) (it : It) (c : E) (elt : E)
  | comp2 (own : List Nat) (p : Pt) (it : It) (c : E) (own1 : List Nat) (p1 : Pt) (it1 : It) (c1 : E) (elt : E)
  | dct0 | dct1 (k v : E) | dctc (own : List Nat) (p : Pt) (it : It) (k v : E) | dcto (a : E) | listK (a : E) | sortedI (a : E) | sortedS (a : E)
inductive Es where
  | nil | cons (e : E) (es : Es)
/-- a slice's bound -/
inductive Bd where
  | no | at (e : E)
/-- what is walked; nob: no bound -/
inductive It where
  | of (e : E) | ofL (e : E) | range1 (e : E) | range2 (a b : E) | zip (a b : E) | enum (a : E) | items (a : E) | keys (a : E)
end
mutual
inductive S where
  | exp (e : E) | asg (p : Pt) (e : E) | par (is : List Nat) (es : Es)
  | sto (o i e : E) | slst (o lo hi e : E) | fld (o : E) (f : Str) (e : E)
  | aug (i : Nat) (o : Operator) (e : E) | augs (o i : E) (op : Operator) (e : E)
  | ret (e : E) | retN | ife (c : E) (a b : Ss) | for (p : Pt) (it : It) (b : Ss) | whl (c : E) (b : Ss)
  | brk | cnt | pass | never
  | gfz (i : Nat) | gff (i : Nat) (f : Str)
inductive Ss where
  | nil | cons (s : S) (ss : Ss)
end

/-! ### the reading of operators -/
section
variable (st : Store)
def seqOf : D → Option (List D)
  | .tup xs => some xs
  | .lst xs => some xs
  | .ro xs => some xs
  | .loc a => match st a with | some (.lst xs) => some xs | _ => none
  | _ => none
def lstOf : D → Option (List D)
  | .lst xs => some xs
  | .loc a => match st a with | some (.lst xs) => some xs | _ => none
  | _ => none
def dctOf : D → Option (List (D × D))
  | .dct kvs => some kvs
  | .loc a => match st a with | some (.dct kvs _) => some kvs | _ => none
  | _ => none
def insOf : D → Option (Str × List (Str × D))
  | .ins c fs => some (c, fs)
  | .loc a => match st a with | some (.ins c fs) => some (c, fs) | _ => none
  | _ => none
/-- a list in the store told by what it holds -/
def rsv : D → D
  | .loc a => match st a with | some (.lst xs) => .lst xs | _ => .loc a
  | d => d
def truth : D → Option Bool
  | .non => some false
  | .bl b => some b
  | .int i => some (decide (i ≠ 0))
  | .str x => if x.length ≤ 1000 then some (x.length != 0) else none
  | .tup xs => some !xs.isEmpty
  | .lst xs => some !xs.isEmpty
  | _ => none
end
/-- the value at a key -/
def look (kvs : List (D × D)) (k : D) : Option D := (kvs.find? fun p => p.1.eqv k).map (·.2)
/-- the pairs behind a store -/
def put (kvs : List (D × D)) (k v : D) : List (D × D) :=
  if (look kvs k).isSome then kvs.map fun p => if p.1.eqv k then (p.1, v) else p else kvs ++ [(k, v)]
mutual
/-- data without lists have a key -/
def D.hashB : D → Bool
  | .non => true
  | .bl _ => true
  | .int _ => true
  | .str _ => true
  | .tup xs => D.hashBs xs
  | _ => false
def D.hashBs : List D → Bool
  | [] => true
  | x :: xs => D.hashB x && D.hashBs xs
end
/-- a key: a tuple of data that hash -/
def isKey (d : D) : Bool := match d with | .tup _ => d.dat 8 && d.hashB | _ => false
def MulOk (i j : Int) : Prop := CMul i j ∨ CMulW i j
def opR : Operator → D → D → (D → Prop) → Prop
  | .Add, .int i, .int j, k => k (.int (i + j))
  | .Add, .str x, .str y, k => x.length + y.length ≤ sizeLine ∧ k (.str (x ++ y))
  | .Add, .tup x, .tup y, k => x.length + y.length ≤ sizeLine ∧ k (.tup (x ++ y))
  | .Add, .bl a, .int j, k => k (.int ((if a = true then 1 else 0) + j))
  | .Sub, .int i, .int j, k => k (.int (i - j))
  | .Sub, .bl a, .int j, k => k (.int ((if a = true then 1 else 0) - j))
  | .Sub, .int i, .bl b, k => k (.int (i - if b = true then 1 else 0))
  | .Mult, .int i, .bl b, k => k (.int (i * if b = true then 1 else 0))
  | .Mult, .int i, .int j, k => MulOk i j ∧ k (.int (i * j))
  | .Mult, .tup x, .int j, k => x ≠ [] ∧ 2 ≤ j ∧ j ≤ 1000 ∧ x.length ≤ 1000 ∧ k (.tup (List.replicate j.toNat x).flatten)
  | .Mod, .int i, .int j, k => 0 < j ∧ k (.int (i % j))
  | .FloorDiv, .int i, .int j, k => (0 < j ∧ j < 1073741824) ∧ k (.int (i / j))
  | .Pow, .int i, .int j, k => CPow i j ∧ k (.int (i ^ j.toNat))
  | _, _, _, _ => False
def cmpR (st : Store) : CmpOp → D → D → (Bool → Prop) → Prop
  | .Eq, a, b, k => (rsv st a).dat 60 ∧ (rsv st b).dat 60 ∧ k ((rsv st a).eqv (rsv st b))
  | .NotEq, a, b, k => (rsv st a).dat 60 ∧ (rsv st b).dat 60 ∧ k (!(rsv st a).eqv (rsv st b))
  | .Lt, a, b, k => a.dat 60 ∧ b.dat 60 ∧ a.alike b ∧ k (a.lt b)
  | .LtE, .int a, .int b, k => k (decide (a ≤ b))
  | .Gt, .int a, .int b, k => k (decide (b < a))
  | .Gt, .tup a, .tup b, k => D.dats 50 a ∧ D.dats 50 b ∧ D.alikes b a ∧ k (D.lts b a)
  | .GtE, .int a, .int b, k => k (decide (b ≤ a))
  | .GtE, .tup a, .tup b, k => D.dats 50 a ∧ D.dats 50 b ∧ D.alikes a b ∧ k (!D.lts a b)
  | .Is, a, b, k => (b = .non ∧ k (match a with | .non => true | _ => false)) ∨ ∃ x y, a = .bl x ∧ b = .bl y ∧ k (x == y)
  | .IsNot, a, b, k => (b = .non ∧ k (match a with | .non => false | _ => true)) ∨ ∃ x y, a = .bl x ∧ b = .bl y ∧ k (!(x == y))
  | .In, a, b, k => match b with
    | .str y => ∃ x, a = .str x ∧ k (!(Builtin.Str.occurrences y x 0 y.length 1).isEmpty)
    | b => (∃ xs, seqOf st b = some xs ∧ a.dat 60 ∧ D.dats 60 xs ∧ k (xs.any fun x => x.eqv a)) ∨ (∃ kvs, dctOf st b = some kvs ∧ isKey a ∧ k (look kvs a).isSome)
  | .LtE, _, _, _ => False
  | .Gt, _, _, _ => False
  | .GtE, _, _, _ => False
  | .NotIn, a, b, k => match b with
    | .str y => ∃ x, a = .str x ∧ k (Builtin.Str.occurrences y x 0 y.length 1).isEmpty
    | b => (∃ xs, seqOf st b = some xs ∧ a.dat 60 ∧ D.dats 60 xs ∧ k (!xs.any fun x => x.eqv a)) ∨ (∃ kvs, dctOf st b = some kvs ∧ isKey a ∧ k (!(look kvs a).isSome))
def idxR (st : Store) (a i : D) (k : D → Prop) : Prop :=
  (∃ xs j d, seqOf st a = some xs ∧ i = .int j ∧ atI xs j = some d ∧ k d) ∨
  (∃ kvs d, dctOf st a = some kvs ∧ isKey i ∧ look kvs i = some d ∧ k d)
def cutD (xs : List D) (lo hi : Option Int) : List D := (xs.drop (HT.sIx xs.length 0 lo)).take (HT.sIx xs.length xs.length hi - HT.sIx xs.length 0 lo)
/-- a slice of a tuple, a text, a list that stands still -/
def slcR (a : D) (l h : Option Int) (k : D → Prop) : Prop := match a with
  | .tup xs => k (.tup (cutD xs l h))
  | .str x => x.length ≤ sizeLine ∧ k (.str (cutS x l h))
  | .lst xs => k (.lst (cutD xs l h))
  | _ => False
def slcL (st : Store) (a : D) (l h : Option Int) (k : List D → Prop) : Prop := ∃ xs, lstOf st a = some xs ∧ k (cutD xs l h)
def revR (a : D) (k : D → Prop) : Prop := match a with
  | .tup xs => k (.tup xs.reverse)
  | _ => False
def intsD : List D → Option (List Int)
  | [] => some []
  | .int i :: r => (intsD r).map (i :: ·)
  | _ => none
def boolsD : List D → Option (List Bool)
  | [] => some []
  | .bl i :: r => (boolsD r).map (i :: ·)
  | _ => none
/-- the first greatest one -/
def maxL : List D → Option D
  | [] => none
  | d :: ds => some (ds.foldl (fun m x => if m.lt x then x else m) d)
def minL : List D → Option D
  | [] => none
  | d :: ds => some (ds.foldl (fun m x => if x.lt m then x else m) d)
def allAlike (xs : List D) : Prop := ∀ x ∈ xs, ∀ y ∈ xs, x.alike y = true
def biR (st : Store) (b : Bi) (a : D) (k : D → Prop) : Prop := match b with
  | .len => (∃ xs, seqOf st a = some xs ∧ k (.int xs.length)) ∨ (∃ x, a = .str x ∧ x.length ≤ sizeLine ∧ k (.int x.length)) ∨ (∃ kvs, dctOf st a = some kvs ∧ kvs.length ≤ sizeLine ∧ k (.int kvs.length))
  | .tuple => ∃ xs, seqOf st a = some xs ∧ k (.tup xs)
  | .all => ∃ xs bs, lstOf st a = some xs ∧ boolsD xs = some bs ∧ k (.bl (bs.all id))
  | .any => ∃ xs bs, lstOf st a = some xs ∧ boolsD xs = some bs ∧ k (.bl (bs.any id))
  | .sum => ∃ xs bs, lstOf st a = some xs ∧ intsD xs = some bs ∧ k (.int bs.sum)
  | .int => (∃ i, a = .int i ∧ k (.int i)) ∨ (∃ b, a = .bl b ∧ k (.int (if b then 1 else 0)))
  | .max => ∃ xs m, lstOf st a = some xs ∧ D.dats 60 xs ∧ allAlike xs ∧ maxL xs = some m ∧ k m
  | .min => ∃ xs m, lstOf st a = some xs ∧ D.dats 60 xs ∧ allAlike xs ∧ minL xs = some m ∧ k m
def mxdR (st : Store) (isMax : Bool) (a d : D) (k : D → Prop) : Prop := ∃ xs, lstOf st a = some xs ∧ D.dats 60 xs ∧ allAlike xs ∧ k ((if isMax = true then maxL xs else minL xs).getD d)
def mxR (isMax : Bool) (a b : D) (k : D → Prop) : Prop := ∃ i j, a = .int i ∧ b = .int j ∧ k (.int (if isMax then (if j > i then j else i) else (if j < i then j else i)))
def isTy : Ty → D → Option Bool
  | .cls _, _ => none
  | t, .non => some false
  | t, .bl _ => some (t == .bool || t == .int)
  | t, .int _ => some (t == .int)
  | t, .str _ => some (t == .str)
  | t, .tup _ => some (t == .tuple)
  | t, .lst _ => some (t == .list)
  | _, _ => none
def isTys : List Ty → D → Option Bool
  | [], _ => some false
  | t :: ts, d => match isTy t d, isTys ts d with | some a, some b => some (a || b) | _, _ => none
def strsD : List D → Option (List Str)
  | [] => some []
  | .str i :: r => (strsD r).map (i :: ·)
  | _ => none
/-- o[i] = d -/
def stoR (ob : Ob) (i d : D) (k : Ob → Prop) : Prop := match ob with
  | .lst xs => ∃ j n, i = .int j ∧ ixN xs.length j = some n ∧ k (.lst (xs.set n d))
  | .dct kvs _ => isKey i ∧ kvs.length < sizeLine ∧ ∀ ep, k (.dct (put kvs i d) ep)
  | _ => False
def rangeL (lo : Int) (n : Nat) : List D := (List.range n).map fun (i : Nat) => .int (lo + i)
def items1 : D → Option (List D)
  | .tup xs => some xs
  | .lst xs => some xs
  | .str x => some (x.cps.toList.map fun c => .str ⟨#[c]⟩)
  | _ => none
def zipD : List D → List D → List D
  | a :: as, b :: bs => .pr a b :: zipD as bs
  | _, _ => []

/-! ### targets -/
mutual
def asg : Pt → D → Env → (Env → Prop) → Prop
  | .var i, d, ρ, k => k (ρ.set i (some d))
  | .tup ps, d, ρ, k => match d with | .tup xs => asgs ps xs ρ k | .pr x y => asgs ps [x, y] ρ k | _ => False
def asgs : Pts → List D → Env → (Env → Prop) → Prop
  | .nil, ds, ρ, k => match ds with | [] => k ρ | _ => False
  | .cons p ps, ds, ρ, k => match ds with | d :: ds => asg p d ρ fun ρ1 => asgs ps ds ρ1 k | [] => False
end
def wipeE (ρ : Env) : List Nat → Env
  | [] => ρ
  | v :: vs => (wipeE ρ vs).set v none

/-! ### deep freezing -/
mutual
inductive Fz (st st' : Store) : D → D → Prop where
  | refl (d : D) : Fz st st' d d
  | tup {xs ys : List D} : Fzs st st' xs ys → Fz st st' (.tup xs) (.tup ys)
  | lst {xs ys : List D} : Fzs st st' xs ys → Fz st st' (.lst xs) (.lst ys)
  | loc {a : Addr} {xs ys : List D} : st a = some (.lst xs) → st' a = none → Fzs st st' xs ys → Fz st st' (.loc a) (.lst ys)
  | dct {a : Addr} {kvs ws : List (D × D)} {ep : Nat} : st a = some (.dct kvs ep) → st' a = none → Fzk st st' kvs ws → Fz st st' (.loc a) (.dct ws)
  | ins {a : Addr} {c : Str} {fs gs : List (Str × D)} : st a = some (.ins c fs) → st' a = none → Fzf st st' fs gs → Fz st st' (.loc a) (.ins c gs)
inductive Fzs (st st' : Store) : List D → List D → Prop where
  | nil : Fzs st st' [] []
  | cons {x y : D} {xs ys : List D} : Fz st st' x y → Fzs st st' xs ys → Fzs st st' (x :: xs) (y :: ys)
inductive Fzk (st st' : Store) : List (D × D) → List (D × D) → Prop where
  | nil : Fzk st st' [] []
  | cons {k x y : D} {xs ys : List (D × D)} : Fz st st' x y → Fzk st st' xs ys → Fzk st st' ((k, x) :: xs) ((k, y) :: ys)
inductive Fzf (st st' : Store) : List (Str × D) → List (Str × D) → Prop where
  | nil : Fzf st st' [] []
  | cons {k : Str} {x y : D} {xs ys : List (Str × D)} : Fz st st' x y → Fzf st st' xs ys → Fzf st st' ((k, x) :: xs) ((k, y) :: ys)
end

/-! ### the reading -/
/-- the turns of a comprehension; C: what stands at each turn -/
def turns (C : Store → Prop) (f : D → Store → (Option D → Store → Prop) → Prop) : List D → Store → List D → (List D → Store → Prop) → Prop
  | [], st, acc, Q => C st ∧ Q acc st
  | d :: ds, st, acc, Q => C st ∧ f d st fun o st' => match o with
    | some x => acc.length < sizeLine ∧ turns C f ds st' (acc ++ [x]) Q
    | none => turns C f ds st' acc Q
/-- .. over anything that grows -/
def turnsA {α : Type} (C : Store → Prop) (f : D → Store → α → (α → Store → Prop) → Prop) : List D → Store → α → (α → Store → Prop) → Prop
  | [], st, acc, Q => C st ∧ Q acc st
  | d :: ds, st, acc, Q => C st ∧ f d st acc fun acc' st' => turnsA C f ds st' acc' Q
/-- of a value that may be there -/
def orD (o : Option D) (f : D → Prop) (g : Prop) : Prop := match o with | some v => f v | none => g
/-- the keys that a pick tells, in that order -/
def picks (ks : List Nat) (ds : List D) : List D := ks.map fun i => ds.getD i .non
/-- a walk that hangs on nothing -/
def CT : Store → Prop := fun _ => True
def CL (a : Addr) (xs : List D) : Store → Prop := fun st => st a = some (.lst xs)
def CD (a : Addr) (kvs : List (D × D)) (ep : Nat) : Store → Prop := fun st => st a = some (.dct kvs ep)
/-- sorting knows these lists: tuples none of which is empty, none that is a tuple, tuples of which the first is empty -/
def sortB (xs : List D) : Bool := xs.all (fun d => match d with | .tup (_ :: _) => true | _ => false) || xs.all (fun d => match d with | .tup _ => false | .non => false | _ => true) ||
  (match xs with | .tup [] :: _ => true | _ => false) && xs.all (fun d => match d with | .tup _ => true | _ => false)
/-- sorted, stable -/
def sortD (xs : List D) : List D := xs.mergeSort fun a b => !b.lt a
def sortR (xs : List D) (k : List D → Prop) : Prop := D.dats 50 xs ∧ allAlike xs ∧ sortB xs ∧ xs.length ≤ sizeLine ∧ k (sortD xs)
/-- each of its kind once, the first one of them -/
def setD (xs : List D) : List D := xs.foldl (fun acc x => if acc.any fun y => y.eqv x then acc else acc ++ [x]) []
def pairsD : List D → Option (List (D × D))
  | [] => some []
  | .tup [k, v] :: r => (pairsD r).map ((k, v) :: ·)
  | _ => none
def putAll (kvs more : List (D × D)) : List (D × D) := more.foldl (fun m p => put m p.1 p.2) kvs
/-- the names of a closure, from its call on -/
def lamE : List Nat → List D → Env → Env
  | i :: is, d :: ds, ρ => lamE is ds (ρ.set i (some d))
  | _, _, ρ => ρ
/-- the first one whose key is greatest -/
def maxK : List D → List D → Option D
  | x :: xs, k :: ks => some ((xs.zip ks).foldl (fun m p => if m.2.lt p.2 then p else m) (x, k)).1
  | _, _ => none
section
variable (Γ : Ctx) (X : XPost)
mutual
def den : E → Env → Store → Post → Prop
  | .var i, ρ, st, Q => match ρ[i]? with | some (some d) => Q d st | _ => False
  | .non, _, st, Q => Q .non st
  | .bl b, _, st, Q => Q (.bl b) st
  | .int i, _, st, Q => Q (.int i) st
  | .str x, _, st, Q => Q (.str x) st
  | .glo x, _, st, Q => match Γ.gl x with | some d => Q d st | none => False
  | .tup es, ρ, st, Q => denEs es ρ st fun ds st1 => ds.length ≤ sizeLine ∧ Q (.tup ds) st1
  | .fr p, ρ, st, Q => denP p ρ st fun o st1 => match o with
    | .lst ds => Q (.lst ds) st1
    | .dct kvs _ => Q (.dct kvs) st1
    | _ => False
  | .bx p, ρ, st, Q => denP p ρ st fun o st1 => ∀ a, st1 a = none → Q (.loc a) (st1.set a o)
  | .bin o a b, ρ, st, Q => den a ρ st fun x st1 => den b ρ st1 fun y st2 => opR o x y fun z => Q z st2
  | .neg a, ρ, st, Q => den a ρ st fun x st1 => ∃ i, x = .int i ∧ Q (.int (-i)) st1
  | .cmp o a b, ρ, st, Q => den a ρ st fun x st1 => den b ρ st1 fun y st2 => cmpR st2 o x y fun z => Q (.bl z) st2
  | .cmp2 o o' a b c, ρ, st, Q => den a ρ st fun x st1 => den b ρ st1 fun y st2 => cmpR st2 o x y fun z =>
      if z = true then den c ρ st2 fun w st3 => cmpR st3 o' y w fun z' => Q (.bl z') st3 else Q (.bl false) st2
  | .bop isAnd es, ρ, st, Q => denB isAnd es ρ st Q
  | .orv a b, ρ, st, Q => den a ρ st fun d st1 => ∃ t, truth d = some t ∧ (if t = false then den b ρ st1 Q else Q d st1)
  | .not a, ρ, st, Q => den a ρ st fun x st1 => ∃ b, x = .bl b ∧ Q (.bl (!b)) st1
  | .ite t a b, ρ, st, Q => den t ρ st fun x st1 => ∃ c, x = .bl c ∧ (if c = true then den a ρ st1 Q else den b ρ st1 Q)
  | .idx a i, ρ, st, Q => den a ρ st fun x st1 => den i ρ st1 fun y st2 => idxR st2 x y fun z => Q z st2
  | .slc a lo hi, ρ, st, Q => den a ρ st fun x st1 => denO lo ρ st1 fun y st2 => denO hi ρ st2 fun z st3 => slcR x y z fun r => Q r st3
  | .rev a, ρ, st, Q => den a ρ st fun x st1 => revR x fun r => Q r st1
  | .bi b a, ρ, st, Q => den a ρ st fun x st1 => biR st1 b x fun r => Q r st1
  | .mxd m a b, ρ, st, Q => den a ρ st fun x st1 => den b ρ st1 fun y st2 => mxdR st2 m x y fun r => Q r st2
  | .mx m a b, ρ, st, Q => den a ρ st fun x st1 => den b ρ st1 fun y st2 => mxR m x y fun r => Q r st2
  | .isi a ts, ρ, st, Q => den a ρ st fun x st1 => match isTys ts (rsv st1 x) with | some b => Q (.bl b) st1 | none => False
  | .app o e, ρ, st, Q => den o ρ st fun x st1 => ∃ a zs, x = .loc a ∧ st1 a = some (.lst zs) ∧ den e ρ st1 fun d st2 => ∃ xs, st2 a = some (.lst xs) ∧ xs.length < sizeLine ∧ Q .non (st2.set a (.lst (xs ++ [d])))
  | .pop o, ρ, st, Q => den o ρ st fun x st1 => ∃ a xs d, x = .loc a ∧ st1 a = some (.lst xs) ∧ xs.getLast? = some d ∧ Q d (st1.set a (.lst xs.dropLast))
  | .popAt o i, ρ, st, Q => den o ρ st fun x st1 => ∃ a zs, x = .loc a ∧ st1 a = some (.lst zs) ∧ den i ρ st1 fun y st2 => ∃ (xs : List D) (j : Nat) (d : D), st2 a = some (.lst xs) ∧ y = .int j ∧ j < 1000000 ∧ xs[j]? = some d ∧ Q d (st2.set a (.lst (xs.eraseIdx j)))
  | .ins o i e, ρ, st, Q => den o ρ st fun x st1 => ∃ a zs, x = .loc a ∧ st1 a = some (.lst zs) ∧ den i ρ st1 fun y st2 => den e ρ st2 fun d st3 => ∃ (xs : List D) (j : Nat), st3 a = some (.lst xs) ∧ y = .int j ∧ j < 1000000 ∧ xs.length < sizeLine ∧
      Q .non (st3.set a (.lst (xs.take j ++ [d] ++ xs.drop j)))
  | .upper o, ρ, st, Q => den o ρ st fun x st1 => ∃ z, x = .str z ∧ z.length ≤ 1000 ∧ Q (.str (Txt.upper z)) st1
  | .join o e, ρ, st, Q => den o ρ st fun x st1 => ∃ z, x = .str z ∧ den e ρ st1 fun y st2 => ∃ xs ys, lstOf st2 y = some xs ∧ strsD xs = some ys ∧ (ys.map (·.length)).sum + ys.length * z.length ≤ 1000000 ∧ Q (.str (Txt.join z ys)) st2
  | .get o i, ρ, st, Q => den o ρ st fun x st1 => ∃ zs, dctOf st1 x = some zs ∧ den i ρ st1 fun y st2 => ∃ kvs, dctOf st2 x = some kvs ∧ isKey y ∧ Q ((look kvs y).getD .non) st2
  | .getd o i e, ρ, st, Q => den o ρ st fun x st1 => ∃ zs, dctOf st1 x = some zs ∧ den i ρ st1 fun y st2 => den e ρ st2 fun d st3 => ∃ kvs, dctOf st3 x = some kvs ∧ isKey y ∧ Q ((look kvs y).getD d) st3
  | .setd o i e, ρ, st, Q => den o ρ st fun x st1 => ∃ a zs ep, x = .loc a ∧ st1 a = some (.dct zs ep) ∧ den i ρ st1 fun y st2 => den e ρ st2 fun d st3 => ∃ kvs ep, st3 a = some (.dct kvs ep) ∧ isKey y ∧ kvs.length < sizeLine ∧
      orD (look kvs y) (fun v => Q v st3) (∀ ep, Q d (st3.set a (.dct (put kvs y d) ep)))
  | .upd o e, ρ, st, Q => den o ρ st fun x st1 => ∃ a zs ep, x = .loc a ∧ st1 a = some (.dct zs ep) ∧ den e ρ st1 fun y st2 => ∃ kvs more ep, st2 a = some (.dct kvs ep) ∧ y = .dct more ∧ kvs ≠ [] ∧ more.all (fun p => isKey p.1) ∧ kvs.length + more.length < sizeLine ∧
      ∀ ep, Q .non (st2.set a (.dct (putAll kvs more) ep))
  | .att o f, ρ, st, Q => den o ρ st fun x st1 => ∃ c fs d, insOf st1 x = some (c, fs) ∧ Γ.cf c f = true ∧ fs.lookup f = some d ∧ Q d st1
  | .call f es, ρ, st, Q => denEs es ρ st fun ds st1 => match Γ.fn f with | some sp => sp ds st1 Q X | none => False
  | .mcl c m o es, ρ, st, Q => den o ρ st fun x st1 => ∃ fs, insOf st1 x = some (c, fs) ∧ fs.lookup m = none ∧ denEs es ρ st1 fun ds st2 => match Γ.me c m with | some sp => sp (x :: ds) st2 Q X | none => False
  | .new c es, ρ, st, Q => denEs es ρ st fun ds st1 => ∀ a, st1 a = none → match Γ.me c "__init__" with | some sp => sp (.loc a :: ds) (st1.set a (.ins c [])) (fun d st2 => d = .non ∧ Q (.loc a) st2) X | none => False
  | .clv i es, ρ, st, Q => denEs es ρ st fun ds st1 => match ρ[i]? with | some (some (.clo n)) => Γ.cl n ds st1 Q X | _ => False
  | .callk f ks es, ρ, st, Q => denEs es ρ st fun ds st1 => match Γ.fn f with | some sp => sp (picks ks ds) st1 Q X | none => False
  | .callL f es own b, ρ, st, Q => denEs es ρ st fun ds st1 => match Γ.hf f with
    | some sp => sp (fun as st' Q' X' => as.length = own.length ∧ X' = X ∧ den b (lamE own as ρ) st' Q') (ds ++ [.clo 0]) st1 Q X
    | none => False
  | .maxk a own b, ρ, st, Q => den a ρ st fun x st1 => ∃ xs ks m, lstOf st1 x = some xs ∧ xs ≠ [] ∧ maxK xs ks = some m ∧ ks.length = xs.length ∧ D.dats 60 ks ∧ allAlike ks ∧ (∀ (i : Nat) d k, xs[i]? = some d → ks[i]? = some k → ∀ Q' : Post, Q' k st1 → den b (lamE [own] [d] ρ) st1 Q') ∧ Q m st1
  | .frz e, ρ, st, Q => den e ρ st fun x st1 => ∃ st2 y, (∀ a o, st2 a = some o → st1 a = some o) ∧ Fz st1 st2 x y ∧ Q y st2
def denP : P → Env → Store → (Ob → Store → Prop) → Prop
  | .disp es, ρ, st, Q => denEs es ρ st fun ds st1 => ds.length ≤ sizeLine ∧ Q (.lst ds) st1
  | .cat a b, ρ, st, Q => den a ρ st fun x st1 => den b ρ st1 fun y st2 => ∃ xs ys, lstOf st2 x = some xs ∧ lstOf st2 y = some ys ∧ xs.length + ys.length ≤ sizeLine ∧ Q (.lst (xs ++ ys)) st2
  | .rep a n, ρ, st, Q => den a ρ st fun x st1 => den n ρ st1 fun y st2 => ∃ xs j, lstOf st2 x = some xs ∧ y = .int j ∧ 0 < j ∧ j ≤ 100 ∧ xs.length ≤ 1000 ∧ Q (.lst (List.replicate j.toNat xs).flatten) st2
  | .slc a lo hi, ρ, st, Q => den a ρ st fun x st1 => denO lo ρ st1 fun y st2 => denO hi ρ st2 fun z st3 => slcL st3 x y z fun r => Q (.lst r) st3
  | .rev a, ρ, st, Q => den a ρ st fun x st1 => ∃ xs, lstOf st1 x = some xs ∧ Q (.lst xs.reverse) st1
  | .list a, ρ, st, Q => den a ρ st fun x st1 => ∃ xs, seqOf st1 x = some xs ∧ Q (.lst xs) st1
  | .sorted a, ρ, st, Q => den a ρ st fun x st1 => ∃ xs, (lstOf st1 x = some xs ∨ ∃ kvs, dctOf st1 x = some kvs ∧ xs = kvs.map (·.1)) ∧ sortR xs fun r => Q (.lst r) st1
  | .sortedI a, ρ, st, Q => den a ρ st fun x st1 => ∃ kvs, dctOf st1 x = some kvs ∧ sortR (kvs.map fun p => .tup [p.1, p.2]) fun r => Q (.lst r) st1
  | .sortedS a, ρ, st, Q => den a ρ st fun x st1 => ∃ xs, lstOf st1 x = some xs ∧ xs.all isKey ∧ xs.length ≤ 30 ∧ sortR (setD xs) fun r => Q (.lst r) st1
  | .listK a, ρ, st, Q => den a ρ st fun x st1 => ∃ kvs, dctOf st1 x = some kvs ∧ kvs.length ≤ sizeLine ∧ Q (.lst (kvs.map (·.1))) st1
  | .dct0, _, st, Q => ∀ ep, Q (.dct [] ep) st
  | .dct1 k v, ρ, st, Q => den k ρ st fun y st1 => den v ρ st1 fun d st2 => isKey y ∧ ∀ ep, Q (.dct [(y, d)] ep) st2
  | .dcto a, ρ, st, Q => den a ρ st fun x st1 => ∃ xs kvs, seqOf st1 x = some xs ∧ pairsD xs = some kvs ∧ kvs.all (fun p => isKey p.1) ∧ kvs.length < sizeLine ∧ ∀ ep, Q (.dct (putAll [] kvs) ep) st1
  | .dctc own p it kx vx, ρ, st, Q => denI it ρ st fun ds C st1 =>
      turnsA C (fun d st kvs k => asg p d (wipeE ρ own) fun ρ1 => den kx ρ1 st fun y st1 => den vx ρ1 st1 fun z st2 => isKey y ∧ kvs.length < sizeLine ∧ k (put kvs y z) st2) ds st1 [] fun kvs st2 => ∀ ep, Q (.dct kvs ep) st2
  | .comp2 own p it c own1 p1 it1 c1 elt, ρ, st, Q => denI it ρ st fun ds C st1 =>
      turnsA C (fun d st acc k => asg p d (wipeE ρ own) fun ρ1 => den c ρ1 st fun t st1 => ∃ b, t = .bl b ∧ (if b = true then
        denI it1 ρ1 st1 fun ds1 C1 st2 => turnsA C1 (fun d st acc k => asg p1 d (wipeE ρ1 own1) fun ρ2 => den c1 ρ2 st fun t st1 => ∃ b, t = .bl b ∧ (if b = true then
          den elt ρ2 st1 fun x st2 => acc.length < sizeLine ∧ k (acc ++ [x]) st2 else k acc st1)) ds1 st2 acc k
        else k acc st1)) ds st1 ([] : List D) fun xs st2 => Q (.lst xs) st2
  | .comp own p it elt, ρ, st, Q => denI it ρ st fun ds C st1 =>
      turns C (fun d st k => asg p d (wipeE ρ own) fun ρ1 => den elt ρ1 st fun x st2 => k (some x) st2) ds st1 [] fun xs st2 => Q (.lst xs) st2
  | .compif own p it c elt, ρ, st, Q => denI it ρ st fun ds C st1 =>
      turns C (fun d st k => asg p d (wipeE ρ own) fun ρ1 => den c ρ1 st fun t st1 => ∃ b, t = .bl b ∧ (if b = true then den elt ρ1 st1 fun x st2 => k (some x) st2 else k none st1)) ds st1 [] fun xs st2 => Q (.lst xs) st2
def denO : Bd → Env → Store → (Option Int → Store → Prop) → Prop
  | .no, _, st, Q => Q none st
  | .at e, ρ, st, Q => den e ρ st fun d st1 => ∃ i, d = .int i ∧ Q (some i) st1
def denEs : Es → Env → Store → (List D → Store → Prop) → Prop
  | .nil, _, st, Q => Q [] st
  | .cons e es, ρ, st, Q => den e ρ st fun d st1 => denEs es ρ st1 fun ds st2 => Q (d :: ds) st2
/-- and, or; of none: True -/
def denB : Bool → Es → Env → Store → Post → Prop
  | _, .nil, _, st, Q => Q (.bl true) st
  | isAnd, .cons e es, ρ, st, Q => match es with
    | .nil => den e ρ st Q
    | .cons _ _ => den e ρ st fun d st1 => ∃ b, d = .bl b ∧ (if b = isAnd then denB isAnd es ρ st1 Q else Q d st1)
def denI : It → Env → Store → (List D → (Store → Prop) → Store → Prop) → Prop
  | .of e, ρ, st, Q => den e ρ st fun d st1 => match items1 d with | some xs => Q xs CT st1 | none => False
  | .ofL e, ρ, st, Q => den e ρ st fun d st1 => ∃ a xs, d = .loc a ∧ st1 a = some (.lst xs) ∧ Q xs (CL a xs) st1
  | .range1 e, ρ, st, Q => den e ρ st fun d st1 => ∃ n, d = .int n ∧ (-(2 ^ 62) ≤ n ∧ n < 2 ^ 62) ∧ Q (rangeL 0 n.toNat) CT st1
  | .range2 a b, ρ, st, Q => den a ρ st fun d st1 => den b ρ st1 fun d' st2 => ∃ lo hi, d = .int lo ∧ d' = .int hi ∧ (-(2 ^ 62) ≤ lo ∧ lo < 2 ^ 62 ∧ -(2 ^ 62) ≤ hi ∧ hi < 2 ^ 62) ∧ Q (rangeL lo (hi - lo).toNat) CT st2
  | .zip a b, ρ, st, Q => den a ρ st fun x st1 => den b ρ st1 fun y st2 => ((∃ xs ys, x = .lst xs ∧ y = .lst ys ∧ Q (zipD xs ys) CT st2) ∨ ∃ xs ys, x = .tup xs ∧ y = .tup ys ∧ Q (zipD xs ys) CT st2)
  | .enum a, ρ, st, Q => den a ρ st fun x st1 => ∃ xs, x = .tup xs ∧ Q (zipD (rangeL 0 xs.length) xs) CT st1
  | .items a, ρ, st, Q => den a ρ st fun x st1 => (∃ kvs, x = .dct kvs ∧ Q (kvs.map fun p => .pr p.1 p.2) CT st1) ∨ ∃ a kvs ep, x = .loc a ∧ st1 a = some (.dct kvs ep) ∧ Q (kvs.map fun p => .pr p.1 p.2) (CD a kvs ep) st1
  | .keys a, ρ, st, Q => den a ρ st fun x st1 => (∃ kvs, x = .dct kvs ∧ Q (kvs.map fun p => p.1) CT st1) ∨ ∃ a kvs ep, x = .loc a ∧ st1 a = some (.dct kvs ep) ∧ Q (kvs.map fun p => p.1) (CD a kvs ep) st1
end
end

/-- what is wanted behind a statement -/
structure Kn where
  nx : Env → Store → Prop
  rt : Post
  bk : Env → Store → Prop := fun _ _ => False
  ct : Env → Store → Prop := fun _ _ => False
/-- a for over items -/
def forL (p : Pt) (f : Env → Store → Kn → Prop) (K : Kn) (C : Store → Prop) : List D → Env → Store → Prop
  | [], ρ, st => C st ∧ K.nx ρ st
  | d :: ds, ρ, st => C st ∧ asg p d ρ fun ρ1 => f ρ1 st { nx := forL p f K C ds, rt := K.rt, bk := K.nx, ct := forL p f K C ds }
/-- a while of at most so many turns -/
def whlN (c : Env → Store → Post → Prop) (f : Env → Store → Kn → Prop) (K : Kn) : Nat → Env → Store → Prop
  | 0, _, _ => False
  | n + 1, ρ, st => c ρ st fun d st1 => ∃ b, d = .bl b ∧ (if b = true then f ρ st1 { nx := whlN c f K n, rt := K.rt, bk := K.nx, ct := whlN c f K n } else K.nx ρ st1)
def setAll : List Nat → List D → Env → Env
  | i :: is, d :: ds, ρ => setAll is ds (ρ.set i (some d))
  | _, _, ρ => ρ
def putF (f : Str) (d : D) : List (Str × D) → List (Str × D)
  | [] => [(f, d)]
  | p :: r => if p.1 = f then (f, d) :: r else p :: putF f d r
section
variable (Γ : Ctx) (X : XPost)
mutual
def denS : S → Kn → Env → Store → Prop
  | .exp e, K, ρ, st => den Γ X e ρ st fun _ st1 => K.nx ρ st1
  | .asg p e, K, ρ, st => den Γ X e ρ st fun d st1 => asg p d ρ fun ρ1 => K.nx ρ1 st1
  | .par is es, K, ρ, st => denEs Γ X es ρ st fun ds st1 => ds.length = is.length ∧ K.nx (setAll is ds ρ) st1
  | .sto o i e, K, ρ, st => den Γ X e ρ st fun d st1 => den Γ X o ρ st1 fun x st2 => den Γ X i ρ st2 fun y st3 => ∃ a ob, x = .loc a ∧ st3 a = some ob ∧ stoR ob y d fun ob' => K.nx ρ (st3.set a ob')
  | .slst o lo hi e, K, ρ, st => den Γ X e ρ st fun d st1 => den Γ X o ρ st1 fun x st2 => den Γ X lo ρ st2 fun y st3 => den Γ X hi ρ st3 fun z st4 => ∃ a xs ys l h, x = .loc a ∧ st4 a = some (.lst xs) ∧ d = .lst ys ∧
      y = .int (Nat.cast l) ∧ z = .int (Nat.cast h) ∧ l ≤ h ∧ l ≤ xs.length ∧ xs.length + ys.length < sizeLine ∧ K.nx ρ (st4.set a (.lst (xs.take l ++ ys ++ xs.drop h)))
  | .fld o f e, K, ρ, st => den Γ X e ρ st fun d st1 => den Γ X o ρ st1 fun x st2 => ∃ a c fs, x = .loc a ∧ st2 a = some (.ins c fs) ∧ Γ.cf c f = true ∧ fs.length < 100 ∧ K.nx ρ (st2.set a (.ins c (putF f d fs)))
  | .aug i o e, K, ρ, st => match ρ[i]? with
    | some (some x) => den Γ X e ρ st fun y st1 => ∃ m n, x = .int m ∧ y = .int n ∧ opR o x y fun z => K.nx (ρ.set i (some z)) st1
    | _ => False
  | .augs o i op e, K, ρ, st => den Γ X o ρ st fun x st1 => den Γ X i ρ st1 fun y st2 => ∃ a zs ep u, x = .loc a ∧ st2 a = some (.dct zs ep) ∧ isKey y ∧ look zs y = some u ∧ den Γ X e ρ st2 fun v st3 => ∃ m n kvs ep, u = .int m ∧ v = .int n ∧
      st3 a = some (.dct kvs ep) ∧ kvs.length < sizeLine ∧ opR op u v fun z => ∀ ep, K.nx ρ (st3.set a (.dct (put kvs y z) ep))
  | .ret e, K, ρ, st => den Γ X e ρ st K.rt
  | .retN, K, _, st => K.rt .non st
  | .ife c a b, K, ρ, st => den Γ X c ρ st fun d st1 => ∃ t, d = .bl t ∧ (if t = true then denSs a K ρ st1 else denSs b K ρ st1)
  | .for p it b, K, ρ, st => denI Γ X it ρ st fun ds C st1 => forL p (fun ρ st K => denSs b K ρ st) K C ds ρ st1
  | .whl c b, K, ρ, st => ∃ n, whlN (den Γ X c) (fun ρ st K => denSs b K ρ st) K n ρ st
  | .brk, K, ρ, st => K.bk ρ st
  | .cnt, K, ρ, st => K.ct ρ st
  | .pass, K, ρ, st => K.nx ρ st
  | .never, _, _, _ => False
  | .gfz i, K, ρ, st => match ρ[i]? with
    | some (some x) => ∃ st2 y, (∀ a o, st2 a = some o → st a = some o) ∧ Fz st st2 x y ∧ K.nx (ρ.set i (some y)) st2
    | _ => False
  | .gff i f, K, ρ, st => ∃ a c fs y st2 z, ρ[i]? = some (some (.loc a)) ∧ st a = some (.ins c fs) ∧ fs.lookup f = some y ∧ (∀ b o, st2 b = some o → st b = some o) ∧ st2 a = some (.ins c fs) ∧ Fz st st2 y z ∧ K.nx ρ (st2.set a (.ins c (putF f z fs)))
def denSs : Ss → Kn → Env → Store → Prop
  | .nil, K, ρ, st => K.nx ρ st
  | .cons s ss, K, ρ, st => denS s { K with nx := fun ρ1 st1 => denSs ss K ρ1 st1 } ρ st
end
end
end G
/-! How values of the small language lie in the abstract heap. -/
namespace G
open PySem PySem.Spec PyProof.Rows L2

/-! ### keys -/
mutual
def nk : D → Option NestedKey
  | .non => some .none
  | .bl b => some (.num (if b then 1 else 0))
  | .int i => some (.num i)
  | .str x => some (.text x)
  | .tup xs => (nks xs).map .tup
  | _ => none
def nks : List D → Option (List NestedKey)
  | [] => some []
  | x :: xs => match nk x, nks xs with | some a, some b => some (a :: b) | _, _ => none
end

/-! ### values in the heap -/
structure Wd where
  K : PySem.W.Frag
  w : World
  cls : Str → Option Addr
  clo : Nat → Option Addr
  /-- the tables of code objects, each with the name of its lambdas -/
  T : List (Addr × Str) := []
def WrL (K : PySem.W.Frag) (a : Addr) (xs : List V) : Prop :=
  ∃ (o : Obj) (its : Array Value) (n : Nat), K.lookup a = some o ∧ o.cls = .type "list" ∧ o.dict = none ∧ o.data = .seq its n ∧ its.size ≤ sizeLine ∧ Vals xs its.toList
def WrT (K : PySem.W.Frag) (a : Addr) (xs : List V) : Prop :=
  ∃ (o : Obj) (its : Array Value) (n : Nat), o.dict = none ∧ K.lookup a = some o ∧ o.cls = .type "tuple" ∧ o.data = .seq its n ∧ its.size ≤ sizeLine ∧ Vals xs its.toList
/-- nothing changes it -/
def Still (B : Addr → Prop) (st : Store) (a : Addr) : Prop := st a = none ∧ ¬ B a
def FrL (K : PySem.W.Frag) (B : Addr → Prop) (st : Store) (H : Hp) (a : Addr) (xs : List V) : Prop := (Still B st a ∧ ∃ o, H a = some (.frz o (.lst xs))) ∨ WrL K a xs
theorem FrL.sq {K : PySem.W.Frag} {B : Addr → Prop} {st : Store} {H : Hp} {a : Addr} {xs : List V} (h : FrL K B st H a xs) : SqL K H a xs := h.elim (fun h => .inl (.inr h.2)) .inr
/-- a tuple that is known to the object -/
def FrT (K : PySem.W.Frag) (B : Addr → Prop) (st : Store) (H : Hp) (a : Addr) (xs : List V) : Prop := (Still B st a ∧ ∃ o, o.dict = none ∧ H a = some (.frz o (.tup xs))) ∨ WrT K a xs
theorem FrT.sq {K : PySem.W.Frag} {B : Addr → Prop} {st : Store} {H : Hp} {a : Addr} {xs : List V} (h : FrT K B st H a xs) : SqT K H a xs := h.elim (fun ⟨_, o, _, e⟩ => .inl (.inr ⟨o, e⟩)) fun ⟨o, its, n, _, h⟩ => .inr ⟨o, its, n, h⟩
/-- the raw dict object at a, by its entries -/
def RawD (a : Addr) (es : List DictEntry) (ep : Nat) (h : Heap) : Prop := ∃ o, h.get? a = some o ∧ o.ExactDict ∧ o.data = .dict es.toArray ep
mutual
inductive Rep (W : Wd) (B : Addr → Prop) (st : Store) (H : Hp) : V → D → Prop where
  | non : Rep W B st H .non .non
  | bl (b : Bool) : Rep W B st H (.bl b) (.bl b)
  | int (i : Int) : Rep W B st H (.int i) (.int i)
  | str (x : Str) : Rep W B st H (.str x) (.str x)
  | tup {a : Addr} {vs : List V} {ds : List D} : FrT W.K B st H a vs → RepL W B st H vs ds → Rep W B st H (.ref a) (.tup ds)
  | lst {a : Addr} {vs : List V} {ds : List D} : Still B st a → H a = some (.lst vs) → RepL W B st H vs ds → Rep W B st H (.ref a) (.lst ds)
  | dct {a : Addr} {es : List DictEntry} {ep : Nat} {kvs : List (D × D)} : Still B st a → H a = some (.ext (RawD a es ep)) → (a == sysModules) = false → RepK W B st H es kvs → (kvs.map fun p => nk p.1).Nodup → Rep W B st H (.ref a) (.dct kvs)
  | ins {a C dx : Addr} {c : Str} {gs : List (Str × V)} {fs : List (Str × D)} : Still B st a → H a = some (.ins C dx gs) → W.cls c = some C → RepF W B st H gs fs → Rep W B st H (.ref a) (.ins c fs)
  | loc (a : Addr) : Rep W B st H (.ref a) (.loc a)
  | clo {a : Addr} {n : Nat} : W.clo n = some a → Rep W B st H (.ref a) (.clo n)
  | ro {a : Addr} {vs : List V} {ds : List D} : FrL W.K B st H a vs → RepL W B st H vs ds → Rep W B st H (.ref a) (.ro ds)
  | pr {a : Addr} {u v : V} {x y : D} : Still B st a → H a = some (.tup [u, v]) → Rep W B st H u x → Rep W B st H v y → Rep W B st H (.ref a) (.pr x y)
inductive RepL (W : Wd) (B : Addr → Prop) (st : Store) (H : Hp) : List V → List D → Prop where
  | nil : RepL W B st H [] []
  | cons {v : V} {d : D} {vs : List V} {ds : List D} : Rep W B st H v d → RepL W B st H vs ds → RepL W B st H (v :: vs) (d :: ds)
inductive RepK (W : Wd) (B : Addr → Prop) (st : Store) (H : Hp) : List DictEntry → List (D × D) → Prop where
  | nil : RepK W B st H [] []
  | cons {b : Addr} {u : Value} {v : V} {xs : List D} {d : D} {ks : List NestedKey} {es : List DictEntry} {kvs : List (D × D)} : nks xs = some ks → (D.tup xs).dat 8 = true → Rep W B st H (.ref b) (.tup xs) → RelV v u → Rep W B st H v d → RepK W B st H es kvs →
      RepK W B st H (⟨(NestedKey.tup ks).hash W.w, .ref b, u⟩ :: es) ((.tup xs, d) :: kvs)
inductive RepF (W : Wd) (B : Addr → Prop) (st : Store) (H : Hp) : List (Str × V) → List (Str × D) → Prop where
  | nil : RepF W B st H [] []
  | cons {f : Str} {v : V} {d : D} {gs : List (Str × V)} {fs : List (Str × D)} : Rep W B st H v d → RepF W B st H gs fs → RepF W B st H ((f, v) :: gs) ((f, d) :: fs)
end
/-- no table -/
def nt : HO → Prop
  | .tbl _ => False
  | _ => True
/-- what stood, unchanging and told, stands (but for tables) -/
def Gro (B : Addr → Prop) (st : Store) (H : Hp) (st' : Store) (H' : Hp) : Prop := ∀ a o, st a = none → ¬ B a → H a = some o → nt o → st' a = none ∧ H' a = some o
/-- .. what is hidden, too -/
def Grow (st : Store) (H : Hp) (st' : Store) (H' : Hp) : Prop := ∀ a o, st a = none → H a = some o → nt o → st' a = none ∧ H' a = some o
theorem Grow.refl (st : Store) (H : Hp) : Grow st H st H := fun _ _ h1 h2 _ => ⟨h1, h2⟩
theorem Grow.trans {s1 s2 s3 : Store} {H1 H2 H3 : Hp} (a : Grow s1 H1 s2 H2) (b : Grow s2 H2 s3 H3) : Grow s1 H1 s3 H3 := fun c o h1 h2 n => let ⟨h3, h4⟩ := a c o h1 h2 n; b c o h3 h4 n
section
variable {B : Addr → Prop}
theorem Grow.b {st st' : Store} {H H' : Hp} (g : Grow st H st' H') : Gro B st H st' H' := fun a o h1 _ h2 n => g a o h1 h2 n
theorem Gro.trans {s1 s2 s3 : Store} {H1 H2 H3 : Hp} (a : Gro B s1 H1 s2 H2) (b : Gro B s2 H2 s3 H3) : Gro B s1 H1 s3 H3 := fun c o h1 hb h2 n => let ⟨h3, h4⟩ := a c o h1 hb h2 n; b c o h3 hb h4 n
theorem Still.grow {st st' : Store} {H H' : Hp} {a : Addr} {o : HO} (g : Gro B st H st' H') (h : Still B st a) (e : H a = some o) (n : nt o := by trivial) : Still B st' a ∧ H' a = some o :=
  ⟨⟨(g a o h.1 h.2 e n).1, h.2⟩, (g a o h.1 h.2 e n).2⟩
theorem FrT.grow {K : PySem.W.Frag} {st st' : Store} {H H' : Hp} {a : Addr} {xs : List V} (g : Gro B st H st' H') (h : FrT K B st H a xs) : FrT K B st' H' a xs := by
  rcases h with ⟨h, o, d, r⟩ | h
  · exact .inl ⟨(h.grow g r).1, o, d, (h.grow g r).2⟩
  · exact .inr h
theorem FrL.grow {K : PySem.W.Frag} {st st' : Store} {H H' : Hp} {a : Addr} {xs : List V} (g : Gro B st H st' H') (h : FrL K B st H a xs) : FrL K B st' H' a xs := by
  rcases h with ⟨h, o, r⟩ | h
  · exact .inl ⟨(h.grow g r).1, o, (h.grow g r).2⟩
  · exact .inr h
end
section
variable {W : Wd} {B : Addr → Prop} {st st' : Store} {H H' : Hp}
mutual
theorem Rep.gro (g : Gro B st H st' H') : ∀ {v : V} {d : D}, Rep W B st H v d → Rep W B st' H' v d
  | _, _, .non => .non
  | _, _, .bl b => .bl b
  | _, _, .int i => .int i
  | _, _, .str x => .str x
  | _, _, .tup h r => .tup (h.grow g) (RepL.gro g r)
  | _, _, .lst h1 h2 r => .lst (h1.grow g h2).1 (h1.grow g h2).2 (RepL.gro g r)
  | _, _, .dct h1 h2 h3 r n => .dct (h1.grow g h2).1 (h1.grow g h2).2 h3 (RepK.gro g r) n
  | _, _, .ins h1 h2 h3 r => .ins (h1.grow g h2).1 (h1.grow g h2).2 h3 (RepF.gro g r)
  | _, _, .loc a => .loc a
  | _, _, .clo h => .clo h
  | _, _, .ro h r => .ro (h.grow g) (RepL.gro g r)
  | _, _, .pr s h r t => .pr (s.grow g h).1 (s.grow g h).2 (Rep.gro g r) (Rep.gro g t)
theorem RepL.gro (g : Gro B st H st' H') : ∀ {vs : List V} {ds : List D}, RepL W B st H vs ds → RepL W B st' H' vs ds
  | _, _, .nil => .nil
  | _, _, .cons r t => .cons (Rep.gro g r) (RepL.gro g t)
theorem RepK.gro (g : Gro B st H st' H') : ∀ {vs : List DictEntry} {ds : List (D × D)}, RepK W B st H vs ds → RepK W B st' H' vs ds
  | _, _, .nil => .nil
  | _, _, .cons h1 h2 r q s t => .cons h1 h2 (Rep.gro g r) q (Rep.gro g s) (RepK.gro g t)
theorem RepF.gro (g : Gro B st H st' H') : ∀ {vs : List (Str × V)} {ds : List (Str × D)}, RepF W B st H vs ds → RepF W B st' H' vs ds
  | _, _, .nil => .nil
  | _, _, .cons r t => .cons (Rep.gro g r) (RepF.gro g t)
end
theorem Rep.grow (g : Grow st H st' H') {v : V} {d : D} (h : Rep W B st H v d) : Rep W B st' H' v d := h.gro g.b
theorem RepL.grow (g : Grow st H st' H') {v : List V} {d : List D} (h : RepL W B st H v d) : RepL W B st' H' v d := h.gro g.b
theorem RepK.grow (g : Grow st H st' H') {v : List DictEntry} {d : List (D × D)} (h : RepK W B st H v d) : RepK W B st' H' v d := h.gro g.b
theorem RepF.grow (g : Grow st H st' H') {v : List (Str × V)} {d : List (Str × D)} (h : RepF W B st H v d) : RepF W B st' H' v d := h.gro g.b
theorem RepL.length : ∀ {vs : List V} {ds : List D}, RepL W B st H vs ds → vs.length = ds.length
  | _, _, .nil => rfl
  | _, _, .cons _ t => congrArg (· + 1) (RepL.length t)
theorem RepK.length : ∀ {vs : List DictEntry} {ds : List (D × D)}, RepK W B st H vs ds → vs.length = ds.length
  | _, _, .nil => rfl
  | _, _, .cons _ _ _ _ _ t => congrArg (· + 1) (RepK.length t)
theorem RepL.get : ∀ {vs : List V} {ds : List D}, RepL W B st H vs ds → ∀ (i : Nat) (d : D), ds[i]? = some d → ∃ v, vs[i]? = some v ∧ Rep W B st H v d
  | _, _, .nil, i, d, h => by simp at h
  | _, _, .cons r t, 0, d, h => by simp at h; subst h; exact ⟨_, rfl, r⟩
  | _, _, .cons r t, i + 1, d, h => by
    obtain ⟨v, h1, h2⟩ := RepL.get t i d (by simpa using h)
    exact ⟨v, by simpa using h1, h2⟩
theorem RepL.get' : ∀ {vs : List V} {ds : List D}, RepL W B st H vs ds → ∀ (i : Nat) (v : V), vs[i]? = some v → ∃ d, ds[i]? = some d ∧ Rep W B st H v d
  | _, _, .nil, i, d, h => by simp at h
  | _, _, .cons r t, 0, d, h => by simp at h; subst h; exact ⟨_, rfl, r⟩
  | _, _, .cons r t, i + 1, d, h => by
    obtain ⟨v, h1, h2⟩ := RepL.get' t i d (by simpa using h)
    exact ⟨v, by simpa using h1, h2⟩
theorem RepL.app : ∀ {vs : List V} {ds : List D} {us : List V} {es : List D}, RepL W B st H vs ds → RepL W B st H us es → RepL W B st H (vs ++ us) (ds ++ es)
  | _, _, _, _, .nil, s => s
  | _, _, _, _, .cons r t, s => .cons r (RepL.app t s)
theorem RepL.take : ∀ {vs : List V} {ds : List D} (n : Nat), RepL W B st H vs ds → RepL W B st H (vs.take n) (ds.take n)
  | _, _, 0, _ => by simp; exact .nil
  | _, _, n + 1, .nil => by simp; exact .nil
  | _, _, n + 1, .cons r t => .cons r (RepL.take n t)
theorem RepL.drop : ∀ {vs : List V} {ds : List D} (n : Nat), RepL W B st H vs ds → RepL W B st H (vs.drop n) (ds.drop n)
  | _, _, 0, h => h
  | _, _, n + 1, .nil => by simp; exact .nil
  | _, _, n + 1, .cons r t => RepL.drop n t
theorem RepL.set {v : V} {d : D} (r : Rep W B st H v d) : ∀ {vs : List V} {ds : List D} (i : Nat), RepL W B st H vs ds → RepL W B st H (vs.set i v) (ds.set i d)
  | _, _, _, .nil => .nil
  | _, _, 0, .cons _ t => .cons r t
  | _, _, i + 1, .cons q t => .cons q (RepL.set r i t)
theorem RepL.rev : ∀ {vs : List V} {ds : List D}, RepL W B st H vs ds → RepL W B st H vs.reverse ds.reverse
  | _, _, .nil => .nil
  | _, _, .cons r t => by
    rw [List.reverse_cons, List.reverse_cons]
    exact (RepL.rev t).app (.cons r .nil)
theorem RepF.lookup : ∀ {vs : List (Str × V)} {ds : List (Str × D)}, RepF W B st H vs ds → ∀ (f : Str) (d : D), ds.lookup f = some d → ∃ v, vs.lookup f = some v ∧ Rep W B st H v d
  | _, _, .nil, f, d, h => by simp at h
  | _, _, .cons (f := g) r t, f, d, h => by
    rw [List.lookup_cons] at h ⊢
    cases e : f == g with
    | true => rw [e] at h; cases h; exact ⟨_, rfl, r⟩
    | false => rw [e] at h; exact RepF.lookup t f d h
theorem RepF.keys : ∀ {vs : List (Str × V)} {ds : List (Str × D)}, RepF W B st H vs ds → vs.map (·.1) = ds.map (·.1)
  | _, _, .nil => rfl
  | _, _, .cons r t => by simp [RepF.keys t]
theorem RepF.length : ∀ {vs : List (Str × V)} {ds : List (Str × D)}, RepF W B st H vs ds → vs.length = ds.length
  | _, _, .nil => rfl
  | _, _, .cons r t => by simp [RepF.length t]
theorem RepF.put {f : Str} {v : V} {d : D} (r : Rep W B st H v d) : ∀ {vs : List (Str × V)} {ds : List (Str × D)}, RepF W B st H vs ds → RepF W B st H (L2.putF f v vs) (G.putF f d ds)
  | _, _, .nil => .cons r .nil
  | _, _, .cons (f := g) q t => by
    unfold L2.putF G.putF
    by_cases e : g = f
    · simp only [e, if_true]; exact .cons r t
    · simp only [e, if_false]; exact .cons q (RepF.put r t)
end
/-- an object of the store in the heap -/
def Has (W : Wd) (B : Addr → Prop) (st : Store) (H : Hp) (a : Addr) : Ob → Prop
  | .lst ds => ∃ vs, H a = some (.lst vs) ∧ RepL W B st H vs ds
  | .dct kvs ep => ∃ es, H a = some (.ext (RawD a es ep)) ∧ (a == sysModules) = false ∧ RepK W B st H es kvs ∧ (kvs.map fun p => nk p.1).Nodup
  | .ins c fs => ∃ C dx gs, H a = some (.ins C dx gs) ∧ W.cls c = some C ∧ RepF W B st H gs fs
/-- the table at P: the code objects that it tells bear the name q -/
def Tab1 (B : Addr → Prop) (st : Store) (H : Hp) (P : Addr) (q : Str) : Prop := Still B st P ∧ ∃ ps : Array Value, H P = some (.tbl ps) ∧ TriplesOk ps.toList ∧ ∀ (pos : Pos) (cv : Value), codeAmong pos ps.toList = some cv → ∃ c, cv = .ref c ∧ Still B st c ∧ H c = some (LamX.CodeO c q)
def TabR (W : Wd) (B : Addr → Prop) (st : Store) (H : Hp) : Prop := ∀ p ∈ W.T, Tab1 B st H p.1 p.2
structure RH (W : Wd) (B : Addr → Prop) (st : Store) (H : Hp) : Prop where
  ob : ∀ a o, st a = some o → Has W B st H a o
  hid : ∀ a, B a → st a = none ∧ ∃ o, H a = some o
  tab : TabR W B st H
/-- tables that nothing touches -/
theorem TabR.to {W : Wd} {B B' : Addr → Prop} {st st' : Store} {H H' : Hp} (h : TabR W B st H) (g : ∀ a o, Still B st a → H a = Option.some o → Still B' st' a ∧ H' a = Option.some o) : TabR W B' st' H' := fun p hp => by
  obtain ⟨s, ps, e, t, c⟩ := h p hp
  obtain ⟨s', e'⟩ := g _ _ s e
  refine ⟨s', ps, e', t, fun pos cv z => ?_⟩
  obtain ⟨c, rfl, s2, e2⟩ := c pos cv z
  obtain ⟨s3, e3⟩ := g _ _ s2 e2
  exact ⟨c, rfl, s3, e3⟩
structure R (W : Wd) (B : Addr → Prop) (ρ : Env) (st : Store) (σ : L2.St) (H : Hp) : Prop where
  len : ρ.length = σ.length
  var : ∀ (i : Nat) (d : D), ρ[i]? = some (some d) → ∃ v, σ[i]? = some (some v) ∧ Rep W B st H v d
  ob : RH W B st H
section
variable {W : Wd} {B B' : Addr → Prop} {st st' : Store} {H H' : Hp} {ρ : Env} {σ : L2.St} {a : Addr} {o : Ob}
theorem Has.some (h : Has W B st H a o) : ∃ u, H a = some u ∧ Mut (some u) := by
  cases o with
  | lst ds => obtain ⟨vs, e, _⟩ := h; exact ⟨_, e, trivial⟩
  | dct ds => obtain ⟨vs, e, _⟩ := h; exact ⟨_, e, trivial⟩
  | ins c ds => obtain ⟨_, _, _, e, _⟩ := h; exact ⟨_, e, trivial⟩
theorem RH.free (h : RH W B st H) (e : H a = none) : Still B st a := by
  refine ⟨?_, fun hb => ?_⟩
  · cases q : st a with
    | none => rfl
    | some o => obtain ⟨u, z, _⟩ := (h.ob a o q).some; rw [e] at z; cases z
  · obtain ⟨_, o, z⟩ := h.hid a hb
    rw [e] at z; cases z
/-- the heap has grown, the store is the same -/
theorem Grow.same (s : Same H H') : Grow st H st H' := fun a o h1 h2 _ => ⟨h1, s a o h2⟩
theorem Has.keep (g : Gro B st H st' H') (e : ∀ u, H a = Option.some u → H' a = Option.some u) (h : Has W B st H a o) : Has W B st' H' a o := by
  cases o with
  | lst ds => obtain ⟨vs, q, r⟩ := h; exact ⟨vs, e _ q, r.gro g⟩
  | dct ds => obtain ⟨vs, q, z, r, n⟩ := h; exact ⟨vs, e _ q, z, r.gro g, n⟩
  | ins c ds => obtain ⟨C, dx, vs, q, k, r⟩ := h; exact ⟨C, dx, vs, e _ q, k, r.gro g⟩
theorem RH.same (h : RH W B st H) (s : Same H H') : RH W B st H' :=
  ⟨fun a o e => (h.ob a o e).keep (Grow.same s).b fun u q => s a u q, fun a hb => let ⟨h1, o, h2⟩ := h.hid a hb; ⟨h1, o, s _ _ h2⟩, h.tab.to fun a o h1 h2 => ⟨h1, s _ _ h2⟩⟩
theorem R.same (h : R W B ρ st σ H) (s : Same H H') : R W B ρ st σ H' :=
  ⟨h.len, fun i d e => let ⟨v, h1, h2⟩ := h.var i d e; ⟨v, h1, h2.grow (Grow.same s)⟩, h.ob.same s⟩
theorem R.step (h : R W B ρ st σ H) (g : Grow st H st' H') (ob : RH W B st' H') : R W B ρ st' σ H' :=
  ⟨h.len, fun i d e => let ⟨v, h1, h2⟩ := h.var i d e; ⟨v, h1, h2.grow g⟩, ob⟩
theorem R.set (h : R W B ρ st σ H) {v : V} {d : D} (i : Nat) (r : Rep W B st H v d) : R W B (ρ.set i (some d)) st (σ.set i (some v)) H := by
  refine ⟨by simp [h.len], fun j e hj => ?_, h.ob⟩
  by_cases hij : i = j
  · subst hij
    have hl : i < ρ.length := by
      rcases Nat.lt_or_ge i ρ.length with q | q
      · exact q
      · rw [List.getElem?_eq_none (by simpa using q)] at hj; cases hj
    rw [List.getElem?_set_self hl] at hj
    cases hj
    exact ⟨v, List.getElem?_set_self (by rw [← h.len]; exact hl), r⟩
  · rw [List.getElem?_set_ne hij] at hj ⊢
    exact h.var j e hj
theorem R.unset (h : R W B ρ st σ H) (i : Nat) : R W B (ρ.set i none) st (σ.set i none) H := by
  refine ⟨by simp [h.len], fun j e hj => ?_, h.ob⟩
  by_cases hij : i = j
  · subst hij
    have hl : i < ρ.length := by
      rcases Nat.lt_or_ge i ρ.length with q | q
      · exact q
      · rw [List.getElem?_eq_none (by simpa using q)] at hj; cases hj
    rw [List.getElem?_set_self hl] at hj
    cases hj
  · rw [List.getElem?_set_ne hij] at hj ⊢
    exact h.var j e hj
theorem R.wipe (h : R W B ρ st σ H) : ∀ vs : List Nat, R W B (wipeE ρ vs) st (L2.wipe σ vs) H
  | [] => h
  | v :: vs => by unfold wipeE L2.wipe; exact (R.wipe h vs).unset v
/-! fewer things hidden -/
theorem Still.less (l : ∀ a, B a → B' a) (h : Still B' st a) : Still B st a := ⟨h.1, fun z => h.2 (l a z)⟩
mutual
theorem Rep.less (l : ∀ a, B a → B' a) : ∀ {v : V} {d : D}, Rep W B' st H v d → Rep W B st H v d
  | _, _, .non => .non
  | _, _, .bl b => .bl b
  | _, _, .int i => .int i
  | _, _, .str x => .str x
  | _, _, .tup h r => .tup (h.imp (fun z => ⟨z.1.less l, z.2⟩) id) (RepL.less l r)
  | _, _, .lst h1 h2 r => .lst (h1.less l) h2 (RepL.less l r)
  | _, _, .dct h1 h2 h3 r n => .dct (h1.less l) h2 h3 (RepK.less l r) n
  | _, _, .ins h1 h2 h3 r => .ins (h1.less l) h2 h3 (RepF.less l r)
  | _, _, .loc a => .loc a
  | _, _, .clo h => .clo h
  | _, _, .ro h r => .ro (h.imp (fun z => ⟨z.1.less l, z.2⟩) id) (RepL.less l r)
  | _, _, .pr s h r t => .pr (s.less l) h (Rep.less l r) (Rep.less l t)
theorem RepL.less (l : ∀ a, B a → B' a) : ∀ {vs : List V} {ds : List D}, RepL W B' st H vs ds → RepL W B st H vs ds
  | _, _, .nil => .nil
  | _, _, .cons r t => .cons (Rep.less l r) (RepL.less l t)
theorem RepK.less (l : ∀ a, B a → B' a) : ∀ {vs : List DictEntry} {ds : List (D × D)}, RepK W B' st H vs ds → RepK W B st H vs ds
  | _, _, .nil => .nil
  | _, _, .cons h1 h2 r q s t => .cons h1 h2 (Rep.less l r) q (Rep.less l s) (RepK.less l t)
theorem RepF.less (l : ∀ a, B a → B' a) : ∀ {vs : List (Str × V)} {ds : List (Str × D)}, RepF W B' st H vs ds → RepF W B st H vs ds
  | _, _, .nil => .nil
  | _, _, .cons r t => .cons (Rep.less l r) (RepF.less l t)
end
theorem Has.less (l : ∀ a, B a → B' a) (h : Has W B' st H a o) : Has W B st H a o := by
  cases o with
  | lst ds => obtain ⟨vs, q, r⟩ := h; exact ⟨vs, q, r.less l⟩
  | dct ds => obtain ⟨vs, q, z, r, n⟩ := h; exact ⟨vs, q, z, r.less l, n⟩
  | ins c ds => obtain ⟨C, dx, vs, q, k, r⟩ := h; exact ⟨C, dx, vs, q, k, r.less l⟩
/-- all at a stays out of what is told -/
def Hide (B : Addr → Prop) (x : Addr) : Addr → Prop := fun a => B a ∨ a = x
/-- a new thing that stands still -/
theorem same_upd {u : HO} (e : H a = none) : Same H (upd H a u) := fun b o q => by rw [upd_ne (ne_of_none q e)]; exact q
/-! other things hidden, new ones among them: nothing told hangs on these -/
theorem Still.re {B' : Addr → Prop} (l : ∀ a, B' a → B a ∨ H a = none) {u : HO} (h : Still B st a) (e : H a = Option.some u) : Still B' st a :=
  ⟨h.1, fun z => (l a z).elim h.2 fun n => by rw [n] at e; cases e⟩
mutual
theorem Rep.re {B' : Addr → Prop} (l : ∀ a, B' a → B a ∨ H a = none) : ∀ {v : V} {d : D}, Rep W B st H v d → Rep W B' st H v d
  | _, _, .non => .non
  | _, _, .bl b => .bl b
  | _, _, .int i => .int i
  | _, _, .str x => .str x
  | _, _, .tup h r => .tup (h.imp (fun ⟨z, o, d, w⟩ => ⟨z.re l w, o, d, w⟩) id) (RepL.re l r)
  | _, _, .lst h1 h2 r => .lst (h1.re l h2) h2 (RepL.re l r)
  | _, _, .dct h1 h2 h3 r m => .dct (h1.re l h2) h2 h3 (RepK.re l r) m
  | _, _, .ins h1 h2 h3 r => .ins (h1.re l h2) h2 h3 (RepF.re l r)
  | _, _, .loc a => .loc a
  | _, _, .clo h => .clo h
  | _, _, .ro h r => .ro (h.imp (fun z => ⟨(let ⟨_, w⟩ := z.2; z.1.re l w), z.2⟩) id) (RepL.re l r)
  | _, _, .pr s h r t => .pr (s.re l h) h (Rep.re l r) (Rep.re l t)
theorem RepL.re {B' : Addr → Prop} (l : ∀ a, B' a → B a ∨ H a = none) : ∀ {vs : List V} {ds : List D}, RepL W B st H vs ds → RepL W B' st H vs ds
  | _, _, .nil => .nil
  | _, _, .cons r t => .cons (Rep.re l r) (RepL.re l t)
theorem RepK.re {B' : Addr → Prop} (l : ∀ a, B' a → B a ∨ H a = none) : ∀ {vs : List DictEntry} {ds : List (D × D)}, RepK W B st H vs ds → RepK W B' st H vs ds
  | _, _, .nil => .nil
  | _, _, .cons h1 h2 r q s t => .cons h1 h2 (Rep.re l r) q (Rep.re l s) (RepK.re l t)
theorem RepF.re {B' : Addr → Prop} (l : ∀ a, B' a → B a ∨ H a = none) : ∀ {vs : List (Str × V)} {ds : List (Str × D)}, RepF W B st H vs ds → RepF W B' st H vs ds
  | _, _, .nil => .nil
  | _, _, .cons r t => .cons (Rep.re l r) (RepF.re l t)
end
theorem Has.re {B' : Addr → Prop} (l : ∀ a, B' a → B a ∨ H a = none) (h : Has W B st H a o) : Has W B' st H a o := by
  cases o with
  | lst ds => obtain ⟨vs, q, r⟩ := h; exact ⟨vs, q, r.re l⟩
  | dct ds => obtain ⟨vs, q, z, r, m⟩ := h; exact ⟨vs, q, z, r.re l, m⟩
  | ins c ds => obtain ⟨C, dx, vs, q, k, r⟩ := h; exact ⟨C, dx, vs, q, k, r.re l⟩
theorem RH.fewer (l : ∀ a, B a → B' a) (h : RH W B' st H) : RH W B st H := ⟨fun a o e => (h.ob a o e).less l, fun a hb => h.hid a (l a hb), h.tab.to fun a o h1 h2 => ⟨h1.less l, h2⟩⟩
theorem R.gro (h : R W B ρ st σ H) (g : Gro B st H st' H') (ob : RH W B st' H') : R W B ρ st' σ H' :=
  ⟨h.len, fun i d e => let ⟨v, h1, h2⟩ := h.var i d e; ⟨v, h1, h2.gro g⟩, ob⟩
/-- a new object that a loop fills is hidden meanwhile -/
theorem RH.hideNew {x : Addr} {u : HO} (h : RH W B st H) (n : H x = none) : RH W (Hide B x) st (upd H x u) := by
  have l : ∀ a, Hide B x a → B a ∨ H a = none := fun a z => z.elim .inl fun e => .inr (by rw [e]; exact n)
  refine ⟨fun a o e => ?_, fun a z => ?_, h.tab.to fun a o h1 h2 => ⟨h1.re l h2, same_upd n _ _ h2⟩⟩
  · exact ((h.ob a o e).re l).keep (Grow.same (same_upd n)).b fun w q => same_upd n a w q
  · by_cases e : a = x
    · rw [e]; exact ⟨(h.free n).1, u, upd_same⟩
    · obtain ⟨h1, o, h2⟩ := h.hid a (z.resolve_right e)
      exact ⟨h1, o, by rw [upd_ne e]; exact h2⟩
/-- without x -/
def cut (H : Hp) (x : Addr) : Hp := fun a => if a = x then none else H a
theorem cut_ne {x a : Addr} (h : a ≠ x) : cut H x a = H a := if_neg h
theorem upd_cut {x : Addr} {u : HO} (h : H x = Option.some u) : upd (cut H x) x u = H := by
  funext a
  unfold upd cut
  by_cases e : a = x
  · rw [if_pos e, e, h]
  · rw [if_neg e, if_neg e]
theorem Gro.cut {x : Addr} : Gro (Hide B x) st H st (cut H x) := fun a o h1 h2 h3 _ => ⟨h1, by rw [cut_ne fun e => h2 (.inr e)]; exact h3⟩
theorem RepL.cut1 {x : Addr} {vs : List V} {ds : List D} (h : RepL W (Hide B x) st H vs ds) : RepL W B st (G.cut H x) vs ds := (h.gro Gro.cut).less fun _ z => .inl z
theorem Rep.cut1 {x : Addr} {vs : V} {ds : D} (h : Rep W (Hide B x) st H vs ds) : Rep W B st (G.cut H x) vs ds := (h.gro Gro.cut).less fun _ z => .inl z
theorem RepK.cut1 {x : Addr} {vs : List DictEntry} {ds : List (D × D)} (h : RepK W (Hide B x) st H vs ds) : RepK W B st (G.cut H x) vs ds := (h.gro Gro.cut).less fun _ z => .inl z
theorem RH.unhide {x : Addr} (h : RH W (Hide B x) st H) (n : ¬ B x) : RH W B st (G.cut H x) := by
  have hx := (h.hid x (.inr rfl)).1
  refine ⟨fun a o e => ?_, fun a z => ?_, h.tab.to fun a o h1 h2 => ⟨h1.less fun _ z => .inl z, by rw [cut_ne fun e => h1.2 (.inr e)]; exact h2⟩⟩
  · have ne : a ≠ x := fun q => by rw [q, hx] at e; cases e
    exact ((h.ob a o e).keep Gro.cut fun u q => by rw [cut_ne ne]; exact q).less fun _ z => .inl z
  · obtain ⟨h1, o, h2⟩ := h.hid a (.inl z)
    exact ⟨h1, o, by rw [cut_ne (fun e => n (by rw [← e]; exact z))]; exact h2⟩
/-- what is hidden changes: what is told stands -/
theorem Gro.hidden {x : Addr} {u : HO} (hx : B x) : Gro B st H st (upd H x u) := fun a o h1 h2 h3 _ => ⟨h1, by
  rw [upd_ne (fun e => h2 (by rw [e]; exact hx))]; exact h3⟩
theorem RH.bump {x : Addr} {u : HO} (h : RH W B st H) (hx : B x) : RH W B st (upd H x u) := by
  refine ⟨fun a o e => ?_, fun a z => ?_, h.tab.to fun a o h1 h2 => ⟨h1, by rw [upd_ne fun e => h1.2 (by rw [e]; exact hx)]; exact h2⟩⟩
  · have ne : a ≠ x := fun q => by rw [q, (h.hid x hx).1] at e; cases e
    exact (h.ob a o e).keep (Gro.hidden hx) fun w q => by rw [upd_ne ne]; exact q
  · obtain ⟨z1, o, z2⟩ := h.hid a z
    by_cases e : a = x
    · rw [e]; exact ⟨(h.hid x hx).1, _, upd_same⟩
    · exact ⟨z1, o, by rw [upd_ne e]; exact z2⟩
/-- an object written -/
theorem RH.write {u : HO} {o' : Ob} (h : RH W B st H) (e : st a = some o) (new : Grow st H (st.set a o') (upd H a u) → Has W B (st.set a o') (upd H a u) a o') :
    RH W B (st.set a o') (upd H a u) ∧ Grow st H (st.set a o') (upd H a u) := by
  have g : Grow st H (st.set a o') (upd H a u) := fun b ob h1 h2 _ => by
    have n : b ≠ a := fun z => by subst z; rw [e] at h1; cases h1
    exact ⟨by unfold Store.set; rw [if_neg n]; exact h1, by rw [upd_ne n]; exact h2⟩
  have nb : ∀ b, B b → b ≠ a := fun b hb z => by
    have := (h.hid b hb).1
    rw [z, e] at this; cases this
  refine ⟨⟨fun b ob q => ?_, fun b hb => ?_, h.tab.to fun b ob h1 h2 => ?_⟩, g⟩
  · by_cases n : b = a
    · subst n
      unfold Store.set at q
      rw [if_pos rfl] at q
      cases q
      exact new g
    · unfold Store.set at q
      rw [if_neg n] at q
      refine (h.ob b ob q).keep g.b fun u' q' => ?_
      rw [upd_ne n]; exact q'
  · obtain ⟨h1, ob, h2⟩ := h.hid b hb
    exact ⟨by unfold Store.set; rw [if_neg (nb b hb)]; exact h1, ob, by rw [upd_ne (nb b hb)]; exact h2⟩
  · have n : b ≠ a := fun z => by rw [z] at h1; rw [h1.1] at e; cases e
    exact ⟨⟨by unfold Store.set; rw [if_neg n]; exact h1.1, h1.2⟩, by rw [upd_ne n]; exact h2⟩
/-- a new object in the store -/
theorem RH.alloc {u : HO} {o' : Ob} (h : RH W B st H) (e : H a = none) (new : Grow st H (st.set a o') (upd H a u) → Has W B (st.set a o') (upd H a u) a o') :
    RH W B (st.set a o') (upd H a u) ∧ Grow st H (st.set a o') (upd H a u) := by
  have g : Grow st H (st.set a o') (upd H a u) := fun b ob h1 h2 _ => by
    have n : b ≠ a := fun z => by subst z; rw [e] at h2; cases h2
    exact ⟨by unfold Store.set; rw [if_neg n]; exact h1, by rw [upd_ne n]; exact h2⟩
  have nb : ∀ b, B b → b ≠ a := fun b hb z => by
    obtain ⟨_, o, q⟩ := h.hid b hb
    rw [z, e] at q; cases q
  refine ⟨⟨fun b ob q => ?_, fun b hb => ?_, h.tab.to fun b ob h1 h2 => ?_⟩, g⟩
  · by_cases n : b = a
    · subst n
      unfold Store.set at q
      rw [if_pos rfl] at q
      cases q
      exact new g
    · unfold Store.set at q
      rw [if_neg n] at q
      refine (h.ob b ob q).keep g.b fun u' q' => ?_
      rw [upd_ne n]; exact q'
  · obtain ⟨h1, ob, h2⟩ := h.hid b hb
    exact ⟨by unfold Store.set; rw [if_neg (nb b hb)]; exact h1, ob, by rw [upd_ne (nb b hb)]; exact h2⟩
  · have n : b ≠ a := fun z => by rw [z, e] at h2; cases h2
    exact ⟨⟨by unfold Store.set; rw [if_neg n]; exact h1.1, h1.2⟩, by rw [upd_ne n]; exact h2⟩
/-- fewer things in the store -/
theorem RH.less (h : RH W B st H) (l : ∀ a o, st' a = some o → st a = some o) : RH W B st' H ∧ Grow st H st' H := by
  have e : ∀ b, st b = none → st' b = none := fun b h1 => by
    cases q : st' b with
    | none => rfl
    | some o => rw [l b o q] at h1; cases h1
  have g : Grow st H st' H := fun b ob h1 h2 _ => ⟨e b h1, h2⟩
  exact ⟨⟨fun b ob q => (h.ob b ob (l b ob q)).keep g.b fun _ z => z, fun b hb => let ⟨h1, o, h2⟩ := h.hid b hb; ⟨e b h1, o, h2⟩, h.tab.to fun b ob h1 h2 => ⟨⟨e b h1.1, h1.2⟩, h2⟩⟩, g⟩
theorem Rep.newTup {vs : List V} {ds : List D} {o : Obj} (h : RH W B st H) (e : H a = none) (hd : o.dict = none) (r : RepL W B st H vs ds) : Rep W B st (upd H a (.frz o (.tup vs))) (.ref a) (.tup ds) :=
  .tup (.inl ⟨h.free e, o, hd, upd_same⟩) (r.grow (Grow.same (same_upd e)))
theorem Rep.newLst {vs : List V} {ds : List D} (h : RH W B st H) (e : H a = none) (r : RepL W B st H vs ds) : Rep W B st (upd H a (.lst vs)) (.ref a) (.lst ds) :=
  .lst (h.free e) upd_same (r.grow (Grow.same (same_upd e)))
theorem seqOf_loc {st : Store} {a : Addr} {xs : List D} (e : seqOf st (.loc a) = some xs) : st a = some (.lst xs) := by
  have e' : (match st a with | some (.lst xs) => some xs | _ => none) = some xs := e
  split at e'
  · rename_i ys hs; cases e'; exact hs
  · cases e'
theorem lstOf_loc {st : Store} {a : Addr} {xs : List D} (e : lstOf st (.loc a) = some xs) : st a = some (.lst xs) := seqOf_loc e
theorem dctOf_loc {st : Store} {a : Addr} {xs : List (D × D)} (e : dctOf st (.loc a) = some xs) : ∃ ep, st a = some (.dct xs ep) := by
  have e' : (match st a with | some (.dct xs _) => some xs | _ => none) = some xs := e
  split at e'
  · rename_i ys ep hs; cases e'; exact ⟨ep, hs⟩
  · cases e'
/-- reading -/
theorem seq_of {v : V} {d : D} {xs : List D} (h : RH W B st H) (r : Rep W B st H v d) (e : seqOf st d = some xs) : ∃ a vs, v = .ref a ∧ RepL W B st H vs xs ∧ (SqL W.K H a vs ∨ SqT W.K H a vs) := by
  cases r with
  | tup q l => cases e; exact ⟨_, _, rfl, l, .inr q.sq⟩
  | lst _ q l => cases e; exact ⟨_, _, rfl, l, .inl (.of q)⟩
  | ro q l => cases e; exact ⟨_, _, rfl, l, .inl q.sq⟩
  | loc a =>
    obtain ⟨vs, q, l⟩ := h.ob _ _ (seqOf_loc e)
    exact ⟨_, _, rfl, l, .inl (.of q)⟩
  | _ => cases e
theorem lst_of {v : V} {d : D} {xs : List D} (h : RH W B st H) (r : Rep W B st H v d) (e : lstOf st d = some xs) : ∃ a vs, v = .ref a ∧ RepL W B st H vs xs ∧ H a = some (.lst vs) := by
  cases r with
  | lst _ q l => cases e; exact ⟨_, _, rfl, l, q⟩
  | loc a =>
    obtain ⟨vs, q, l⟩ := h.ob _ _ (lstOf_loc e)
    exact ⟨_, _, rfl, l, q⟩
  | _ => cases e
end

/-! ### readings lifted -/
/-- an expression's reading, of a reading over plain values -/
def LE (W : Wd) (m : Env → Store → Post → Prop) : TE := fun σ H Q => ∃ B ρ st P, R W B ρ st σ H ∧ m ρ st P ∧
  ∀ d st' v H', P d st' → Rep W B st' H' v d → RH W B st' H' → Grow st H st' H' → Q v H'
def LT (W : Wd) (m : Env → Store → Post → Prop) : TT := fun σ H Q => ∃ B ρ st P, R W B ρ st σ H ∧ m ρ st P ∧
  ∀ d st' H', P d st' → RH W B st' H' → Grow st H st' H' → ∃ b, d = .bl b ∧ Q b H'
def LA (W : Wd) (m : Env → Store → (List D → Store → Prop) → Prop) : TA := fun σ H Q => ∃ B ρ st P, R W B ρ st σ H ∧ m ρ st P ∧
  ∀ ds st' vs H', P ds st' → RepL W B st' H' vs ds → RH W B st' H' → Grow st H st' H' → Q vs H'
theorem _root_.L2.PE.mono {X : Cx} {e : Expr} {t t' : TE} (h : PE X e t) (i : ∀ σ H Q, t' σ H Q → t σ H Q) : PE X e t' := ⟨fun pins s σ H Q I w => h.run pins s σ H Q I (i σ H Q w)⟩
theorem _root_.L2.PT.mono {X : Cx} {e : Expr} {t t' : TT} (h : PT X e t) (i : ∀ σ H Q, t' σ H Q → t σ H Q) : PT X e t' := ⟨fun pins s σ H Q I w => h.run pins s σ H Q I (i σ H Q w)⟩
theorem _root_.L2.PA.mono {X : Cx} {e : List Expr} {t t' : TA} (h : PA X e t) (i : ∀ σ H Q, t' σ H Q → t σ H Q) : PA X e t' := ⟨fun pos pins s σ H Q I w => h.run pos pins s σ H Q I (i σ H Q w)⟩
theorem _root_.L2.PS.mono {X : Cx} {e : Stmt} {t t' : TS} (h : PS X e t) (i : ∀ D σ H, t' D σ H → t D σ H) : PS X e t' := ⟨fun pins s σ H D I w => h.run pins s σ H D I (i D σ H w)⟩
theorem _root_.L2.PSs.mono {X : Cx} {e : List Stmt} {t t' : TS} (h : PSs X e t) (i : ∀ D σ H, t' D σ H → t D σ H) : PSs X e t' := ⟨fun pins s σ H D I w => h.run pins s σ H D I (i D σ H w)⟩
end G
/-! Operators over plain values. -/
namespace G
open PySem PySem.Spec PyProof.Rows L2

/-! ### plain data as the library's data -/
mutual
def py : D → PyData
  | .non => .none
  | .bl b => .bool b
  | .int i => .int i
  | .str x => .str x
  | .tup xs => .tuple (pys xs)
  | .lst xs => .list (pys xs)
  | _ => .none
def pys : List D → List PyData
  | [] => []
  | x :: xs => py x :: pys xs
end
theorem pys_map (xs : List D) : pys xs = xs.map py := by
  induction xs with
  | nil => rfl
  | cons x xs ih => simp [pys, ih]
mutual
theorem eqv_py : ∀ (a b : D) (n m : Nat), a.dat n = true → b.dat m = true → PyData.eqv (py a) (py b) = a.eqv b
  | .non, b, n, m, ha, hb => by cases b <;> simp_all [py, PyData.eqv, D.eqv, D.dat]
  | .bl x, b, n, m, ha, hb => by cases b <;> simp_all [py, PyData.eqv, D.eqv, D.dat, Bool.beq_eq_decide_eq] <;> rfl
  | .int x, b, n, m, ha, hb => by cases b <;> simp_all [py, PyData.eqv, D.eqv, D.dat] <;> rfl
  | .str x, b, n, m, ha, hb => by cases b <;> simp_all [py, PyData.eqv, D.eqv, D.dat] <;> rfl
  | .tup xs, b, n, m, ha, hb => by
    cases b <;> simp_all [py, PyData.eqv, D.eqv, D.dat]
    rename_i ys
    cases n with
    | zero => simp [D.dat] at ha
    | succ n =>
      cases m with
      | zero => simp [D.dat] at hb
      | succ m => exact eqvs_py xs ys n m (by simpa [D.dat] using ha) (by simpa [D.dat] using hb)
  | .lst xs, b, n, m, ha, hb => by
    cases b <;> simp_all [py, PyData.eqv, D.eqv, D.dat]
    rename_i ys
    cases n with
    | zero => simp [D.dat] at ha
    | succ n =>
      cases m with
      | zero => simp [D.dat] at hb
      | succ m => exact eqvs_py xs ys n m (by simpa [D.dat] using ha) (by simpa [D.dat] using hb)
  | .dct _, _, _, _, ha, _ => by simp [D.dat] at ha
  | .ins _ _, _, _, _, ha, _ => by simp [D.dat] at ha
  | .loc _, _, _, _, ha, _ => by simp [D.dat] at ha
  | .clo _, _, _, _, ha, _ => by simp [D.dat] at ha
  | .ro _, _, _, _, ha, _ => by simp [D.dat] at ha
theorem eqvs_py : ∀ (a b : List D) (n m : Nat), D.dats n a = true → D.dats m b = true → PyData.eqvAll (pys a) (pys b) = D.eqvs a b
  | [], [], _, _, _, _ => rfl
  | [], _ :: _, _, _, _, _ => rfl
  | _ :: _, [], _, _, _, _ => rfl
  | x :: xs, y :: ys, n, m, ha, hb => by
    simp only [D.dats, Bool.and_eq_true] at ha hb
    simp only [pys, PyData.eqvAll, D.eqvs, eqv_py x y n m ha.1 hb.1, eqvs_py xs ys n m ha.2 hb.2]
end
mutual
theorem lay_py : ∀ (a : D) (n : Nat), a.dat n = true → (py a).canLay0 = true ∧ (py a).depth ≤ n
  | .non, n, ha => ⟨by simp [py, PyData.canLay0], by simp [py, PyData.depth]⟩
  | .bl x, n, ha => ⟨by simp [py, PyData.canLay0], by simp [py, PyData.depth]⟩
  | .int x, n, ha => ⟨by simp [py, PyData.canLay0], by simp [py, PyData.depth]⟩
  | .str x, n, ha => ⟨by simpa [py, PyData.canLay0, D.dat] using ha, by simp [py, PyData.depth]⟩
  | .tup xs, n, ha => by
    cases n with
    | zero => simp [D.dat] at ha
    | succ n =>
      have h := lays_py xs n (by simpa [D.dat] using ha)
      exact ⟨by simpa [py, PyData.canLay0] using h.1, by simp only [py, PyData.depth]; have := h.2; omega⟩
  | .lst xs, n, ha => by
    cases n with
    | zero => simp [D.dat] at ha
    | succ n =>
      have h := lays_py xs n (by simpa [D.dat] using ha)
      exact ⟨by simpa [py, PyData.canLay0] using h.1, by simp only [py, PyData.depth]; have := h.2; omega⟩
  | .dct _, _, ha => by simp [D.dat] at ha
  | .ins _ _, _, ha => by simp [D.dat] at ha
  | .loc _, _, ha => by simp [D.dat] at ha
  | .clo _, _, ha => by simp [D.dat] at ha
  | .ro _, _, ha => by simp [D.dat] at ha
theorem lays_py : ∀ (a : List D) (n : Nat), D.dats n a = true → PyData.canLayAll0 (pys a) = true ∧ PyData.depthAll (pys a) ≤ n
  | [], _, _ => ⟨rfl, Nat.zero_le _⟩
  | x :: xs, n, ha => by
    simp only [D.dats, Bool.and_eq_true] at ha
    have h1 := lay_py x n ha.1
    have h2 := lays_py xs n ha.2
    exact ⟨by simp [pys, PyData.canLayAll0, h1.1, h2.1], by simp only [pys, PyData.depthAll]; have := h1.2; have := h2.2; omega⟩
end
theorem shaped_py {a : D} (h : a.dat 60 = true) : SeqAt.shaped (py a) = true := by
  have := lay_py a 60 h
  unfold SeqAt.shaped
  rw [Bool.and_eq_true]
  exact ⟨this.1, decide_eq_true (by omega)⟩
mutual
theorem alike_py : ∀ (a b : D), a.alike b = true → PySem.W.alike (py a) (py b) = true
  | .int x, b, h => by cases b <;> simp_all [D.alike, py, PySem.W.alike]
  | .str x, b, h => by cases b <;> simp_all [D.alike, py, PySem.W.alike]
  | .tup xs, b, h => by
    cases b <;> simp_all [D.alike, py, PySem.W.alike]
    rename_i ys
    exact alikes_py xs ys h
  | .non, b, h => by simp [D.alike] at h
  | .bl _, b, h => by simp [D.alike] at h
  | .lst _, b, h => by simp [D.alike] at h
  | .dct _, _, ha => by simp [D.alike] at ha
  | .ins _ _, _, ha => by simp [D.alike] at ha
  | .loc _, _, ha => by simp [D.alike] at ha
  | .clo _, _, ha => by simp [D.alike] at ha
  | .ro _, _, ha => by simp [D.alike] at ha
theorem alikes_py : ∀ (a b : List D), D.alikes a b = true → PySem.W.alikeAll (pys a) (pys b) = true
  | [], _, _ => by simp [pys, PySem.W.alikeAll]
  | x :: xs, [], _ => by simp [pys, PySem.W.alikeAll]
  | x :: xs, y :: ys, h => by
    simp only [D.alikes, Bool.and_eq_true] at h
    simp only [pys, PySem.W.alikeAll, alike_py x y h.1, alikes_py xs ys h.2, Bool.and_self]
end
mutual
theorem lt_py : ∀ (a b : D) (n m : Nat), a.dat n = true → b.dat m = true → a.alike b = true → PySem.W.dataLt (py a) (py b) = a.lt b
  | .int x, b, n, m, ha, hb, h => by cases b <;> simp_all [D.alike, py, D.lt, PySem.W.dataLt_int]
  | .str x, b, n, m, ha, hb, h => by cases b <;> simp_all [D.alike, py, D.lt, PySem.W.dataLt_str]
  | .tup xs, b, n, m, ha, hb, h => by
    cases b <;> simp_all [D.alike, py, D.lt]
    rename_i ys
    rw [PySem.W.dataLt_tuple]
    cases n with
    | zero => simp [D.dat] at ha
    | succ n =>
      cases m with
      | zero => simp [D.dat] at hb
      | succ m => exact lts_py xs ys n m (by simpa [D.dat] using ha) (by simpa [D.dat] using hb) h
  | .non, b, _, _, _, _, h => by simp [D.alike] at h
  | .bl _, b, _, _, _, _, h => by simp [D.alike] at h
  | .lst _, b, _, _, _, _, h => by simp [D.alike] at h
  | .dct _, _, _, _, _, _, ha => by simp [D.alike] at ha
  | .ins _ _, _, _, _, _, _, ha => by simp [D.alike] at ha
  | .loc _, _, _, _, _, _, ha => by simp [D.alike] at ha
  | .clo _, _, _, _, _, _, ha => by simp [D.alike] at ha
  | .ro _, _, _, _, _, _, ha => by simp [D.alike] at ha
theorem lts_py : ∀ (a b : List D) (n m : Nat), D.dats n a = true → D.dats m b = true → D.alikes a b = true → PyProof.Rows.lexLt PyProof.Rows.itemOrd (PySem.W.keyToksAll (pys a)) (PySem.W.keyToksAll (pys b)) = D.lts a b
  | [], [], _, _, _, _, _ => by simp [pys, PySem.W.keyToksAll, PyProof.Rows.lexLt, D.lts, itemLt]
  | [], _ :: _, _, _, _, _, _ => by simp [pys, PySem.W.keyToksAll, PyProof.Rows.lexLt, D.lts, itemLt]
  | _ :: _, [], _, _, _, _, _ => by simp [pys, PySem.W.keyToksAll, PyProof.Rows.lexLt, D.lts, itemLt]
  | x :: xs, y :: ys, n, m, ha, hb, h => by
    simp only [D.dats, Bool.and_eq_true] at ha hb
    simp only [D.alikes, Bool.and_eq_true] at h
    have hal := alike_py x y h.1
    have he := eqv_py x y n m ha.1 hb.1
    simp only [pys, D.lts]
    cases e : x.eqv y with
    | true => rw [if_pos rfl, PySem.W.dataLt_all_yes hal (by rw [he, e])]; exact lts_py xs ys n m ha.2 hb.2 h.2
    | false => rw [if_neg (by decide), PySem.W.dataLt_all_no hal (by rw [he, e])]; exact lt_py x y n m ha.1 hb.1 h.1
end
section
variable {W : Wd} {B : Addr → Prop} {st : Store} {H : Hp}
mutual
theorem Rep.dp : ∀ {v : V} {d : D} (n : Nat), Rep W B st H v d → d.dat n = true → Dp W.K H v (py d)
  | _, _, n, .non, _ => .non
  | _, _, n, .bl b, _ => .bl b
  | _, _, n, .int i, _ => .int i
  | _, _, n, .str x, _ => .str x
  | _, _, 0, .tup _ _, h => by simp [D.dat] at h
  | _, _, n + 1, .tup q r, h => by rw [py]; exact .tup q.sq (RepL.dp n r (by simpa [D.dat] using h))
  | _, _, 0, .lst _ _ _, h => by simp [D.dat] at h
  | _, _, n + 1, .lst _ q r, h => by rw [py]; exact .lst (.of q) (RepL.dp n r (by simpa [D.dat] using h))
  | _, _, _, .dct _ _ _ _ _, h => by simp [D.dat] at h
  | _, _, _, .ins _ _ _ _, h => by simp [D.dat] at h
  | _, _, _, .loc _, h => by simp [D.dat] at h
  | _, _, _, .clo _, h => by simp [D.dat] at h
  | _, _, _, .ro _ _, h => by simp [D.dat] at h
  | _, _, _, .pr _ _ _ _, h => by simp [D.dat] at h
theorem RepL.dp : ∀ {v : List V} {d : List D} (n : Nat), RepL W B st H v d → D.dats n d = true → DpAll W.K H v (pys d)
  | _, _, n, .nil, _ => .nil
  | _, _, n, .cons r t, h => by
    simp only [D.dats, Bool.and_eq_true] at h
    rw [pys]; exact .cons (Rep.dp n r h.1) (RepL.dp n t h.2)
end
theorem rsv_dp {v : V} {d : D} (h : RH W B st H) (r : Rep W B st H v d) (e : (rsv st d).dat 60 = true) : Dp W.K H v (py (rsv st d)) := by
  cases r with
  | loc a =>
    cases q : st a with
    | none => simp [rsv, q, D.dat] at e
    | some o =>
      cases o with
      | lst xs =>
        have q1 : rsv st (.loc a) = .lst xs := by simp [rsv, q]
        rw [q1] at e ⊢
        obtain ⟨vs, q2, l⟩ := h.ob _ _ q
        rw [py]
        exact .lst (.of q2) (RepL.dp 59 l (by simpa [D.dat] using e))
      | dct _ => simp [rsv, q, D.dat] at e
      | ins _ _ => simp [rsv, q, D.dat] at e
  | non => exact Rep.dp (B := B) (st := st) 60 .non e
  | bl b => exact Rep.dp (B := B) (st := st) 60 (.bl b) e
  | int b => exact Rep.dp (B := B) (st := st) 60 (.int b) e
  | str b => exact Rep.dp (B := B) (st := st) 60 (.str b) e
  | tup q l => exact Rep.dp 60 (.tup q l) e
  | lst q l m => exact Rep.dp 60 (.lst q l m) e
  | dct q l m n o => exact Rep.dp 60 (.dct q l m n o) e
  | ins q l m n => exact Rep.dp 60 (.ins q l m n) e
  | pr q l m n => exact Rep.dp 60 (.pr q l m n) e
  | clo q => exact Rep.dp (W := W) (B := B) (st := st) (H := H) 60 (.clo q) e
  | ro q l => exact Rep.dp 60 (.ro q l) e
end

/-! ### rules -/
/-- two values, what is asked of them, what comes -/
def r2 (W : Wd) (k : Store → D → D → (D → Prop) → Prop) : R2 := fun x y H Q => ∃ B st d1 d2 P, RH W B st H ∧ Rep W B st H x d1 ∧ Rep W B st H y d2 ∧ k st d1 d2 P ∧ ∀ d v H', P d → Rep W B st H' v d → Same H H' → Q v H'
def rC (W : Wd) (k : Store → D → D → (Bool → Prop) → Prop) : R2 := fun x y H Q => ∃ B st d1 d2 P, RH W B st H ∧ Rep W B st H x d1 ∧ Rep W B st H y d2 ∧ k st d1 d2 P ∧ ∀ b, P b → Q (.bl b) H
theorem OpR.imp {X : Cx} {f : Value → Value → Sem Value} {r r' : R2} (h : OpR X f r) (i : ∀ x y H Q, r' x y H Q → r x y H Q) : OpR X f r' := fun pins s σ H x y v u Q I rx ry q => h pins s σ H x y v u Q I rx ry (i _ _ _ _ q)
section
variable {X : Cx} {W : Wd}
theorem op_no {f : Value → Value → Sem Value} : OpR X f (fun _ _ _ _ => False) := fun _ _ _ _ _ _ _ _ _ _ _ _ q => q.elim
theorem op_bi {op : Operator} {g : Bool → Int → Int} (h : ∀ {prog : Program} {w : World} {A : Around} {E : Value → Shared → Prop} {s : Shared} {Q : Value → Shared → Prop} {a : Bool} {b : Int} {u : Tok}, Q (.int (g a b) s.toks) { s with toks := s.toks + 1 } → wpAny (model prog w) A (binaryOp op (.bool a) (.int b u)) Q E s) :
    OpR X (binaryOp op) (fun x y H Q => ∃ i k, x = .bl i ∧ y = .int k ∧ Q (.int (g i k)) H) := by
  intro pins s σ H x y v u Q I rx ry ⟨i, k, e1, e2, q⟩
  subst e1 e2
  obtain ⟨t, rfl⟩ := ry
  cases (show v = Value.bool i from rx)
  exact h ⟨.int (g i k), H, I.tok _, ⟨_, rfl⟩, q⟩
theorem op_ib {op : Operator} {g : Int → Bool → Int} (h : ∀ {prog : Program} {w : World} {A : Around} {E : Value → Shared → Prop} {s : Shared} {Q : Value → Shared → Prop} {a : Int} {b : Bool} {u : Tok}, Q (.int (g a b) s.toks) { s with toks := s.toks + 1 } → wpAny (model prog w) A (binaryOp op (.int a u) (.bool b)) Q E s) :
    OpR X (binaryOp op) (fun x y H Q => ∃ i k, x = .int i ∧ y = .bl k ∧ Q (.int (g i k)) H) := by
  intro pins s σ H x y v u Q I rx ry ⟨i, k, e1, e2, q⟩
  subst e1 e2
  obtain ⟨t, rfl⟩ := rx
  cases (show u = Value.bool k from ry)
  exact h ⟨.int (g i k), H, I.tok _, ⟨_, rfl⟩, q⟩
theorem bin_add (hK : X.K = W.K) : OpR X (binaryOp .Add) (r2 W fun _ => opR .Add) := by
  refine OpR.imp (((op_add.or op_add_str).or op_xCat).or (op_bi IntBool.add_bool_int)) fun x y H Q ⟨B, st, d1, d2, P, h, r1, r2, k, q⟩ => ?_
  cases d1 <;> cases d2 <;> simp only [opR] at k
  · cases r1; cases r2
    exact .inr ⟨_, _, rfl, rfl, q _ _ _ k (.int _) (Same.refl _)⟩
  · cases r1; cases r2
    exact .inl (.inl (.inl ⟨_, _, rfl, rfl, q _ _ _ k (.int _) (Same.refl _)⟩))
  · cases r1; cases r2
    exact .inl (.inl (.inr ⟨_, _, rfl, rfl, k.1, q _ _ _ k.2 (.str _) (Same.refl _)⟩))
  · cases r1 with
    | tup f1 l1 =>
      cases r2 with
      | tup f2 l2 =>
        refine .inl (.inr ⟨_, _, _, _, rfl, rfl, by rw [hK]; exact f1.sq, by rw [hK]; exact f2.sq, by rw [l1.length, l2.length]; exact k.1, fun e => ?_, fun _ e => ?_, fun _ _ p o hp hd => ?_⟩)
        · subst e
          cases l1
          exact q _ _ _ k.2 (.tup f2 l2) (Same.refl _)
        · subst e
          cases l2
          exact q _ _ _ k.2 (by rw [List.append_nil]; exact .tup f1 l1) (Same.refl _)
        · exact q _ _ _ k.2 (Rep.newTup h hp ‹_› (l1.app l2)) (same_upd hp)
theorem int_op {f : Value → Value → Sem Value} {C : Int → Int → Prop} {g : Int → Int → V} {k : Store → D → D → (D → Prop) → Prop} (h : OpR X f (rI C g))
    (hk : ∀ st a b P, k st a b P → ∃ i j, a = .int i ∧ b = .int j ∧ C i j ∧ ∃ d, P d ∧ ∀ B st H, Rep W B st H (g i j) d) : OpR X f (r2 W k) := by
  refine OpR.imp h fun x y H Q ⟨B, st, d1, d2, P, h, r1, r2, kk, q⟩ => ?_
  obtain ⟨i, j, rfl, rfl, hc, d, hp, hr⟩ := hk _ _ _ _ kk
  cases r1; cases r2
  exact ⟨_, _, rfl, rfl, hc, q _ _ _ hp (hr _ _ _) (Same.refl _)⟩
theorem rI_of {g : Int → Int → V} {f : Value → Value → Sem Value} (h : OpR X f (rI0 g)) : OpR X f (rI (fun _ _ => True) g) := OpR.imp h fun _ _ _ _ ⟨i, j, a, b, _, q⟩ => ⟨i, j, a, b, q⟩
theorem bin_sub : OpR X (binaryOp .Sub) (r2 W fun _ => opR .Sub) := by
  refine OpR.imp ((op_sub.or (op_bi IntBool.sub_bool_int)).or (op_ib IntBool.sub_int_bool)) fun x y H Q ⟨B, st, d1, d2, P, h, r1, r2, k, q⟩ => ?_
  cases d1 <;> cases d2 <;> simp only [opR] at k
  · cases r1; cases r2
    exact .inl (.inr ⟨_, _, rfl, rfl, q _ _ _ k (.int _) (Same.refl _)⟩)
  · cases r1; cases r2
    exact .inr ⟨_, _, rfl, rfl, q _ _ _ k (.int _) (Same.refl _)⟩
  · cases r1; cases r2
    exact .inl (.inl ⟨_, _, rfl, rfl, q _ _ _ k (.int _) (Same.refl _)⟩)
theorem bin_mod : OpR X (binaryOp .Mod) (r2 W fun _ => opR .Mod) := int_op op_mod fun st a b P k => by
  cases a <;> cases b <;> simp only [opR] at k
  exact ⟨_, _, rfl, rfl, k.1, _, k.2, fun _ _ _ => .int _⟩
theorem bin_fdiv : OpR X (binaryOp .FloorDiv) (r2 W fun _ => opR .FloorDiv) := int_op op_fdiv fun st a b P k => by
  cases a <;> cases b <;> simp only [opR] at k
  exact ⟨_, _, rfl, rfl, k.1, _, k.2, fun _ _ _ => .int _⟩
theorem bin_pow : OpR X (binaryOp .Pow) (r2 W fun _ => opR .Pow) := int_op op_pow fun st a b P k => by
  cases a <;> cases b <;> simp only [opR] at k
  exact ⟨_, _, rfl, rfl, k.1, _, k.2, fun _ _ _ => .int _⟩
theorem RepL.rep {B : Addr → Prop} {st : Store} {H : Hp} {vs : List V} {ds : List D} (r : RepL W B st H vs ds) : ∀ n : Nat, RepL W B st H (List.replicate n vs).flatten (List.replicate n ds).flatten
  | 0 => by simp; exact .nil
  | n + 1 => by
    rw [List.replicate_succ, List.replicate_succ, List.flatten_cons, List.flatten_cons]
    exact r.app (RepL.rep r n)
theorem bin_mul (hK : X.K = W.K) : OpR X (binaryOp .Mult) (r2 W fun _ => opR .Mult) := by
  refine OpR.imp (((op_mul.or op_mulW).or op_xRep).or (op_ib IntBool.mul_int_bool)) fun x y H Q ⟨B, st, d1, d2, P, h, r1, r2, k, q⟩ => ?_
  cases d1 <;> cases d2 <;> simp only [opR] at k
  · cases r1; cases r2
    exact .inr ⟨_, _, rfl, rfl, q _ _ _ k (.int _) (Same.refl _)⟩
  · cases r1; cases r2
    rcases k.1 with c | c
    · exact .inl (.inl (.inl ⟨_, _, rfl, rfl, c, q _ _ _ k.2 (.int _) (Same.refl _)⟩))
    · exact .inl (.inl (.inr ⟨_, _, rfl, rfl, c, q _ _ _ k.2 (.int _) (Same.refl _)⟩))
  · cases r1 with
    | tup f1 l1 =>
      cases r2
      obtain ⟨k1, k2, k3, k4, k5⟩ := k
      refine .inl (.inr ⟨_, _, _, rfl, rfl, by rw [hK]; exact f1.sq, fun e => ?_, k2, k3, by rw [l1.length]; exact k4, fun p o hp hd => q _ _ _ k5 (Rep.newTup h hp hd (l1.rep _)) (same_upd hp)⟩)
      subst e; cases l1; exact k1 rfl
theorem bin_all (hK : X.K = W.K) (o : Operator) (ho : o = .Add ∨ o = .Sub ∨ o = .Mult ∨ o = .Mod ∨ o = .FloorDiv ∨ o = .Pow) : OpR X (binaryOp o) (r2 W fun _ => opR o) := by
  rcases ho with rfl | rfl | rfl | rfl | rfl | rfl
  · exact bin_add hK
  · exact bin_sub
  · exact bin_mul hK
  · exact bin_mod
  · exact bin_fdiv
  · exact bin_pow

/-! comparisons -/
theorem cmp_eq (hK : X.K = W.K) (hu : X.A.units + 64 < cLine) : OpR X (compareOp .Eq) (rC W fun st => cmpR st .Eq) := by
  refine OpR.imp (op_eqD hu) fun x y H Q ⟨B, st, d1, d2, P, h, r1, r2, k, q⟩ => ?_
  obtain ⟨k1, k2, k3⟩ := k
  exact ⟨_, _, by rw [hK]; exact rsv_dp h r1 k1, by rw [hK]; exact rsv_dp h r2 k2, shaped_py k1, shaped_py k2, by rw [eqv_py _ _ 60 60 k1 k2]; exact q _ k3⟩
theorem cmp_ne (hK : X.K = W.K) (hu : X.A.units + 64 < cLine) : OpR X (compareOp .NotEq) (rC W fun st => cmpR st .NotEq) := by
  refine OpR.imp (op_neD hu) fun x y H Q ⟨B, st, d1, d2, P, h, r1, r2, k, q⟩ => ?_
  obtain ⟨k1, k2, k3⟩ := k
  exact ⟨_, _, by rw [hK]; exact rsv_dp h r1 k1, by rw [hK]; exact rsv_dp h r2 k2, shaped_py k1, shaped_py k2, by rw [eqv_py _ _ 60 60 k1 k2]; exact q _ k3⟩
theorem cmp_lt (hK : X.K = W.K) (hu : X.A.units + 64 < cLine) : OpR X (compareOp .Lt) (rC W fun st => cmpR st .Lt) := by
  intro pins s σ H x y v u Q I rx ry ⟨B, st, d1, d2, P, h, r1, r2, k, q⟩
  obtain ⟨k1, k2, k3, k4⟩ := k
  have p1 := Rep.dp 60 r1 k1
  have p2 := Rep.dp 60 r2 k2
  rw [← hK] at p1 p2
  obtain ⟨as, e1⟩ := Dp.reads I _ _ _ p1 rx
  obtain ⟨bs, e2⟩ := Dp.reads I _ _ _ p2 ry
  have l1 := (lay_py d1 60 k1).2
  have l2 := (lay_py d2 60 k2).2
  have al := alike_py d1 d2 k3
  show wpAny _ _ (richCompare .Lt v u) _ _ _
  refine PySem.W.rcLt_alike (py d1) (py d2) X.A s v u as bs e1 e2 al (fun z => ?_) (by omega) X.prog X.w _ _ ⟨.bl _, H, I, rfl, ?_⟩
  · cases d1 <;> simp [py] at z <;> simp [D.alike] at k3
  · rw [lt_py _ _ 60 60 k1 k2 k3]; exact q _ k4
theorem cmp_ints {f : Value → Value → Sem Value} {g : Int → Int → Bool} {k : Store → D → D → (Bool → Prop) → Prop} (h : OpR X f (rI0 fun i j => .bl (g i j)))
    (hk : ∀ st a b P, k st a b P → ∃ i j, a = .int i ∧ b = .int j ∧ P (g i j)) : OpR X f (rC W k) := by
  refine OpR.imp h fun x y H Q ⟨B, st, d1, d2, P, h, r1, r2, kk, q⟩ => ?_
  obtain ⟨i, j, rfl, rfl, hp⟩ := hk _ _ _ _ kk
  cases r1; cases r2
  exact ⟨_, _, rfl, rfl, q _ hp⟩
theorem cmp_le : OpR X (compareOp .LtE) (rC W fun st => cmpR st .LtE) := cmp_ints op_le fun st a b P k => by
  cases a <;> cases b <;> simp only [cmpR] at k
  exact ⟨_, _, rfl, rfl, k⟩
theorem cmp_or {f : Value → Value → Sem Value} {k k1 k2 : Store → D → D → (Bool → Prop) → Prop} (h1 : OpR X f (rC W k1)) (h2 : OpR X f (rC W k2)) (hk : ∀ st a b P, k st a b P → k1 st a b P ∨ k2 st a b P) : OpR X f (rC W k) := by
  intro pins s σ H x y v u Q I rx ry ⟨B, st, d1, d2, P, h, r1, r2, kk, q⟩
  rcases hk _ _ _ _ kk with z | z
  · exact h1 pins s σ H x y v u Q I rx ry ⟨B, st, d1, d2, P, h, r1, r2, z, q⟩
  · exact h2 pins s σ H x y v u Q I rx ry ⟨B, st, d1, d2, P, h, r1, r2, z, q⟩
theorem dats_tup {xs : List D} (h : D.dats 50 xs = true) : (D.tup xs).dat 51 = true := by rw [D.dat]; exact h
theorem gt_tup (hK : X.K = W.K) (hu : X.A.units + 64 < cLine) : OpR X (compareOp .Gt) (rC W fun _ d1 d2 k => ∃ a b, d1 = .tup a ∧ d2 = .tup b ∧ D.dats 50 a = true ∧ D.dats 50 b = true ∧ D.alikes b a = true ∧ k (D.lts b a)) := by
  intro pins s σ H x y v u Q I rx ry ⟨B, st, d1, d2, P, h, r1, r2, ⟨a, b, e1, e2, k1, k2, k3, k4⟩, q⟩
  subst e1 e2
  have p1 := Rep.dp 51 r1 (dats_tup k1)
  have p2 := Rep.dp 51 r2 (dats_tup k2)
  rw [← hK] at p1 p2
  obtain ⟨as, e1⟩ := Dp.reads I _ _ _ p1 rx
  obtain ⟨bs, e2⟩ := Dp.reads I _ _ _ p2 ry
  have l1 := (lay_py _ 51 (dats_tup k1)).2
  have l2 := (lay_py _ 51 (dats_tup k2)).2
  have k3' : (D.tup b).alike (.tup a) = true := by rw [D.alike]; exact k3
  have al := alike_py _ _ k3'
  show wpAny _ _ (richCompare .Gt v u) _ _ _
  refine PySem.W.rcGt_alike (py (.tup a)) (py (.tup b)) X.A s v u as bs e1 e2 ((PySem.W.alike_comm _ _).trans al) (fun z => by simp [py] at z) (by omega) X.prog X.w _ _ ⟨.bl _, H, I, rfl, ?_⟩
  rw [lt_py _ _ 51 51 (dats_tup k2) (dats_tup k1) k3', D.lt]; exact q _ k4
theorem ge_tup (hK : X.K = W.K) (hu : X.A.units + 64 < cLine) : OpR X (compareOp .GtE) (rC W fun _ d1 d2 k => ∃ a b, d1 = .tup a ∧ d2 = .tup b ∧ D.dats 50 a = true ∧ D.dats 50 b = true ∧ D.alikes a b = true ∧ k (!D.lts a b)) := by
  intro pins s σ H x y v u Q I rx ry ⟨B, st, d1, d2, P, h, r1, r2, ⟨a, b, e1, e2, k1, k2, k3, k4⟩, q⟩
  subst e1 e2
  have p1 := Rep.dp 51 r1 (dats_tup k1)
  have p2 := Rep.dp 51 r2 (dats_tup k2)
  rw [← hK] at p1 p2
  obtain ⟨as, e1⟩ := Dp.reads I _ _ _ p1 rx
  obtain ⟨bs, e2⟩ := Dp.reads I _ _ _ p2 ry
  have l1 := (lay_py _ 51 (dats_tup k1)).2
  have l2 := (lay_py _ 51 (dats_tup k2)).2
  have k3' : (D.tup a).alike (.tup b) = true := by rw [D.alike]; exact k3
  have al := alike_py _ _ k3'
  show wpAny _ _ (richCompare .GtE v u) _ _ _
  refine PySem.W.rcGe_alike (py (.tup a)) (py (.tup b)) X.A s v u as bs e1 e2 al (fun z => by simp [py] at z) (by omega) X.prog X.w _ _ ⟨.bl _, H, I, rfl, ?_⟩
  rw [lt_py _ _ 51 51 (dats_tup k1) (dats_tup k2) k3', D.lt]; exact q _ k4
theorem gt_int : OpR X (compareOp .Gt) (rC W fun _ d1 d2 k => ∃ a b, d1 = .int a ∧ d2 = .int b ∧ k (decide (b < a))) := cmp_ints op_gt fun st a b P ⟨i, j, h⟩ => ⟨i, j, h⟩
theorem ge_int : OpR X (compareOp .GtE) (rC W fun _ d1 d2 k => ∃ a b, d1 = .int a ∧ d2 = .int b ∧ k (decide (b ≤ a))) := cmp_ints op_ge fun st a b P ⟨i, j, h⟩ => ⟨i, j, h⟩
theorem cmp_gt (hK : X.K = W.K) (hu : X.A.units + 64 < cLine) : OpR X (compareOp .Gt) (rC W fun st => cmpR st .Gt) := cmp_or gt_int (gt_tup hK hu) fun st a b P k => by
  cases a <;> cases b <;> simp only [cmpR] at k
  · exact .inl ⟨_, _, rfl, rfl, k⟩
  · exact .inr ⟨_, _, rfl, rfl, k⟩
theorem cmp_ge (hK : X.K = W.K) (hu : X.A.units + 64 < cLine) : OpR X (compareOp .GtE) (rC W fun st => cmpR st .GtE) := cmp_or ge_int (ge_tup hK hu) fun st a b P k => by
  cases a <;> cases b <;> simp only [cmpR] at k
  · exact .inl ⟨_, _, rfl, rfl, k⟩
  · exact .inr ⟨_, _, rfl, rfl, k⟩
theorem is_non : OpR X (compareOp .Is) (rC W fun _ d1 d2 k => d2 = .non ∧ k (match d1 with | .non => true | _ => false)) := by
  refine OpR.imp op_isN fun x y H Q ⟨B, st, d1, d2, P, h, r1, r2, k, q⟩ => ?_
  obtain ⟨rfl, k2⟩ := k
  cases r2
  refine ⟨rfl, ?_⟩
  cases r1 <;> exact q _ k2
theorem is_bl : OpR X (compareOp .Is) (rC W fun _ d1 d2 k => ∃ a b, d1 = .bl a ∧ d2 = .bl b ∧ k (a == b)) := by
  refine OpR.imp op_isBl fun x y H Q ⟨B, st, d1, d2, P, h, r1, r2, ⟨a, b, e1, e2, k⟩, q⟩ => ?_
  subst e1 e2
  cases r1; cases r2
  exact ⟨_, _, rfl, rfl, by have := q _ k; cases a <;> cases b <;> exact this⟩
theorem isn_non : OpR X (compareOp .IsNot) (rC W fun _ d1 d2 k => d2 = .non ∧ k (match d1 with | .non => false | _ => true)) := by
  refine OpR.imp op_notN fun x y H Q ⟨B, st, d1, d2, P, h, r1, r2, k, q⟩ => ?_
  obtain ⟨rfl, k2⟩ := k
  cases r2
  refine ⟨rfl, ?_⟩
  cases r1 <;> exact q _ k2
theorem isn_bl : OpR X (compareOp .IsNot) (rC W fun _ d1 d2 k => ∃ a b, d1 = .bl a ∧ d2 = .bl b ∧ k (!(a == b))) := by
  refine OpR.imp op_notBl fun x y H Q ⟨B, st, d1, d2, P, h, r1, r2, ⟨a, b, e1, e2, k⟩, q⟩ => ?_
  subst e1 e2
  cases r1; cases r2
  exact ⟨_, _, rfl, rfl, by have := q _ k; cases a <;> cases b <;> exact this⟩
theorem cmp_is : OpR X (compareOp .Is) (rC W fun st => cmpR st .Is) := cmp_or is_non is_bl fun _ _ _ _ k => k
theorem cmp_isnot : OpR X (compareOp .IsNot) (rC W fun st => cmpR st .IsNot) := cmp_or isn_non isn_bl fun _ _ _ _ k => k
theorem any_py {a : D} : ∀ (xs : List D), a.dat 60 = true → D.dats 60 xs = true → ((pys xs).any fun z => PyData.eqv z (py a)) = xs.any fun x => x.eqv a
  | [], _, _ => rfl
  | x :: xs, h, hs => by
    simp only [D.dats, Bool.and_eq_true] at hs
    simp only [pys, List.any_cons, any_py xs h hs.2, eqv_py x a 60 60 hs.1 h]
theorem seq_reads (hK : X.K = W.K) {pins : List (Addr × Obj)} {σ : L2.St} {H : Hp} {s : Shared} {B : Addr → Prop} {st : Store} {v : V} {u : Value} {d : D} {xs : List D} (I : Inv X pins σ H s) (h : RH W B st H) (r : Rep W B st H v d) (ru : RelV v u) (e : seqOf st d = some xs) (hd : D.dats 60 xs = true) :
    (∃ as, Reads s.heap u (.list (pys xs)) as) ∨ ∃ as, Reads s.heap u (.tuple (pys xs)) as := by
  obtain ⟨a, vs, rfl, l, q | q⟩ := seq_of h r e
  · have p : Dp X.K H (.ref a) (.list (pys xs)) := .lst (by rw [hK]; exact q) (by rw [hK]; exact RepL.dp 60 l hd)
    obtain ⟨as, z⟩ := Dp.reads I _ _ _ p ru
    exact .inl ⟨as, z⟩
  · have p : Dp X.K H (.ref a) (.tuple (pys xs)) := .tup (by rw [hK]; exact q) (by rw [hK]; exact RepL.dp 60 l hd)
    obtain ⟨as, z⟩ := Dp.reads I _ _ _ p ru
    exact .inr ⟨as, z⟩
theorem in_seqs (hK : X.K = W.K) (hu : X.A.units + 64 < cLine) : OpR X (compareOp .In) (rC W fun st a b k => ∃ xs, seqOf st b = some xs ∧ a.dat 60 = true ∧ D.dats 60 xs = true ∧ k (xs.any fun x => x.eqv a)) := by
  intro pins s σ H x y v u Q I rx ry ⟨B, st, d1, d2, P, h, r1, r2, ⟨xs, k1, k2, k3, k4⟩, q⟩
  have p1 := Rep.dp 60 r1 k2
  rw [← hK] at p1
  obtain ⟨as, e1⟩ := Dp.reads I _ _ _ p1 rx
  have l1 := lay_py d1 60 k2
  have l2 := lays_py xs 60 k3
  rcases seq_reads hK I h r2 ry k1 k3 with ⟨bs, e2⟩ | ⟨bs, e2⟩
  · refine SeqAt.in_list_reads e2 e1 l2.1 l1.1 (by have := l1.2; omega) ⟨.bl _, H, I, rfl, ?_⟩
    rw [any_py xs k2 k3]; exact q _ k4
  · refine SeqAt.in_tuple_reads e2 e1 l2.1 l1.1 (by have := l1.2; omega) ⟨.bl _, H, I, rfl, ?_⟩
    rw [any_py xs k2 k3]; exact q _ k4
theorem notin_seqs (hK : X.K = W.K) (hu : X.A.units + 64 < cLine) : OpR X (compareOp .NotIn) (rC W fun st a b k => ∃ xs, seqOf st b = some xs ∧ a.dat 60 = true ∧ D.dats 60 xs = true ∧ k (!xs.any fun x => x.eqv a)) := by
  intro pins s σ H x y v u Q I rx ry ⟨B, st, d1, d2, P, h, r1, r2, ⟨xs, k1, k2, k3, k4⟩, q⟩
  have p1 := Rep.dp 60 r1 k2
  rw [← hK] at p1
  obtain ⟨as, e1⟩ := Dp.reads I _ _ _ p1 rx
  have l1 := lay_py d1 60 k2
  have l2 := lays_py xs 60 k3
  rcases seq_reads hK I h r2 ry k1 k3 with ⟨bs, e2⟩ | ⟨bs, e2⟩
  · refine SeqAt.notIn_list_reads e2 e1 l2.1 l1.1 (by have := l1.2; omega) ⟨.bl _, H, I, rfl, ?_⟩
    rw [any_py xs k2 k3]; exact q _ k4
  · refine SeqAt.notIn_tuple_reads e2 e1 l2.1 l1.1 (by have := l1.2; omega) ⟨.bl _, H, I, rfl, ?_⟩
    rw [any_py xs k2 k3]; exact q _ k4
theorem in_text : OpR X (compareOp .In) (rC W fun _ a b k => ∃ x y, a = .str x ∧ b = .str y ∧ k (!(Builtin.Str.occurrences y x 0 y.length 1).isEmpty)) := by
  refine OpR.imp op_in_str fun x y H Q ⟨B, st, d1, d2, P, h, r1, r2, ⟨x', y', e1, e2, k⟩, q⟩ => ?_
  subst e1 e2
  cases r1; cases r2
  exact ⟨_, _, rfl, rfl, q _ k⟩
theorem notin_text : OpR X (compareOp .NotIn) (rC W fun _ a b k => ∃ x y, a = .str x ∧ b = .str y ∧ k (Builtin.Str.occurrences y x 0 y.length 1).isEmpty) := by
  refine OpR.imp op_notin_str fun x y H Q ⟨B, st, d1, d2, P, h, r1, r2, ⟨x', y', e1, e2, k⟩, q⟩ => ?_
  subst e1 e2
  cases r1; cases r2
  refine ⟨_, _, rfl, rfl, ?_⟩
  rw [Bool.not_not]
  exact q _ k
end
end G
/-! The small language's expressions, one rule a construct. -/
namespace G
open PySem PySem.Spec PyProof.Rows L2
abbrev M := Env → Store → Post → Prop
abbrev MA := Env → Store → (List D → Store → Prop) → Prop
section
variable {X : Cx} {W : Wd} {pos : Pos}

theorem LE.mono {m m' : M} (h : ∀ ρ st P, m' ρ st P → m ρ st P) : ∀ σ H Q, LE W m' σ H Q → LE W m σ H Q := fun σ H Q ⟨B, ρ, st, P, r, k, q⟩ => ⟨B, ρ, st, P, r, h _ _ _ k, q⟩
theorem _root_.L2.PE.to {e : Expr} {m m' : M} (h : PE X e (LE W m)) (i : m' = m) : PE X e (LE W m') := by rw [i]; exact h
theorem _root_.L2.PT.to {e : Expr} {m m' : M} (h : PT X e (LT W m)) (i : m' = m) : PT X e (LT W m') := by rw [i]; exact h
theorem _root_.L2.PA.to {e : List Expr} {m m' : MA} (h : PA X e (LA W m)) (i : m' = m) : PA X e (LA W m') := by rw [i]; exact h

/-! ### names, constants -/
theorem s_var {i : Nat} {x : Str} (hN : X.N[i]? = some x) (hv : Vis X.env.scope x) (hd : (x == ("__debug__" : Str)) = false) (hcd : (x == ("__classdict__" : Str)) = false) :
    PE X (.Name x pos) (LE W fun ρ st Q => match ρ[i]? with | some (some d) => Q d st | _ => False) := by
  refine PE.mono (pe_var hN hv hd hcd) fun σ H Q ⟨B, ρ, st, P, r, k, q⟩ => ?_
  dsimp only at k
  split at k
  · rename_i d e
    obtain ⟨v, h1, h2⟩ := r.var i d e
    exact ⟨v, h1, q d st v H k h2 r.ob (Grow.refl _ _)⟩
  · exact k.elim
theorem s_const {e : Expr} {v : V} {d : D} (h : PE X e (tC v)) (hr : ∀ B st H, Rep W B st H v d) : PE X e (LE W fun _ st Q => Q d st) :=
  PE.mono h fun σ H Q ⟨B, ρ, st, P, r, k, q⟩ => q d st v H k (hr B st H) r.ob (Grow.refl _ _)

/-! ### two values -/
theorem lift2 {ma mb : M} {k : Store → D → D → (D → Prop) → Prop} : ∀ σ H Q, LE W (fun ρ st P => ma ρ st fun x st1 => mb ρ st1 fun y st2 => k st2 x y fun z => P z st2) σ H Q →
    tOp (r2 W k) (LE W ma) (LE W mb) σ H Q := by
  intro σ H Q ⟨B, ρ, st, P, r, h, q⟩
  refine ⟨B, ρ, st, _, r, h, fun d1 st1 v1 H1 h1 r1 o1 g1 => ?_⟩
  refine ⟨B, ρ, st1, _, r.step g1 o1, h1, fun d2 st2 v2 H2 h2 r2 o2 g2 => ?_⟩
  exact ⟨B, st2, d1, d2, _, o2, r1.grow g2, r2, h2, fun d v H' hp rv s => q d st2 v H' hp rv (o2.same s) (g1.trans (g2.trans (Grow.same s)))⟩
theorem lift2c {ma mb : M} {k : Store → D → D → (Bool → Prop) → Prop} : ∀ σ H Q, LE W (fun ρ st P => ma ρ st fun x st1 => mb ρ st1 fun y st2 => k st2 x y fun z => P (.bl z) st2) σ H Q →
    tOp (rC W k) (LE W ma) (LE W mb) σ H Q := by
  intro σ H Q ⟨B, ρ, st, P, r, h, q⟩
  refine ⟨B, ρ, st, _, r, h, fun d1 st1 v1 H1 h1 r1 o1 g1 => ?_⟩
  refine ⟨B, ρ, st1, _, r.step g1 o1, h1, fun d2 st2 v2 H2 h2 r2 o2 g2 => ?_⟩
  exact ⟨B, st2, d1, d2, _, o2, r1.grow g2, r2, h2, fun b hp => q (.bl b) st2 (.bl b) H2 hp (.bl b) o2 (g1.trans g2)⟩
theorem s_bin {a b : Expr} {ma mb : M} {op : Operator} {k : Store → D → D → (D → Prop) → Prop} (ho : OpR X (binaryOp op) (r2 W k)) (ha : PE X a (LE W ma)) (hb : PE X b (LE W mb)) :
    PE X (.BinOp a op b pos) (LE W fun ρ st P => ma ρ st fun x st1 => mb ρ st1 fun y st2 => k st2 x y fun z => P z st2) := (pe_op ho ha hb).mono lift2
theorem s_cmp {a b : Expr} {ma mb : M} {op : CmpOp} {k : Store → D → D → (Bool → Prop) → Prop} (ho : OpR X (compareOp op) (rC W k)) (ha : PE X a (LE W ma)) (hb : PE X b (LE W mb)) (hm : behindInMarks op b = false) :
    PE X (.Compare a [op] [b] pos) (LE W fun ρ st P => ma ρ st fun x st1 => mb ρ st1 fun y st2 => k st2 x y fun z => P (.bl z) st2) := (pe_cmpR ho ha hb hm).mono lift2c
/-- a test by what the expression gives -/
theorem testOf {m : M} {t : TE} (i : ∀ σ H Q, LE W m σ H Q → t σ H Q) : ∀ σ H Q, LT W m σ H Q → t σ H (fun x H' => ∃ k, x = .bl k ∧ Q k H') := by
  intro σ H Q ⟨B, ρ, st, P, r, k, q⟩
  refine i σ H _ ⟨B, ρ, st, P, r, k, fun d st' v H' hp rv o g => ?_⟩
  obtain ⟨b, rfl, hq⟩ := q d st' H' hp o g
  cases rv
  exact ⟨b, rfl, hq⟩
theorem s_cmpT {a b : Expr} {ma mb : M} {op : CmpOp} {k : Store → D → D → (Bool → Prop) → Prop} (ho : OpR X (compareOp op) (rC W k)) (ha : PE X a (LE W ma)) (hb : PE X b (LE W mb)) (hm : behindInMarks op b = false) :
    PT X (.Compare a [op] [b] pos) (LT W fun ρ st P => ma ρ st fun x st1 => mb ρ st1 fun y st2 => k st2 x y fun z => P (.bl z) st2) := (pt_cmpR ho ha hb hm).mono (testOf lift2c)
theorem s_val {e : Expr} {m : M} (h : PE X e (LE W m)) (he : ∀ whole, isTrue e X.env whole = (do let v ← whole; standAt e.pos; holding [v] (truthy v))) : PT X e (LT W m) :=
  (pt_val h he).mono (testOf (t := LE W m) fun _ _ _ h => h)
/-! a < b < c -/
theorem lift3c {ma mb mc : M} {k k' : Store → D → D → (Bool → Prop) → Prop} : ∀ σ H Q, LE W (fun ρ st P => ma ρ st fun x st1 => mb ρ st1 fun y st2 => k st2 x y fun z =>
      if z = true then mc ρ st2 fun w st3 => k' st3 y w fun z' => P (.bl z') st3 else P (.bl false) st2) σ H Q →
    tChain (rC W k) (rC W k') (LE W ma) (LE W mb) (LE W mc) σ H Q := by
  intro σ H Q ⟨B, ρ, st, P, r, h, q⟩
  refine ⟨B, ρ, st, _, r, h, fun d1 st1 v1 H1 h1 r1 o1 g1 => ?_⟩
  refine ⟨B, ρ, st1, _, r.step g1 o1, h1, fun d2 st2 v2 H2 h2 r2 o2 g2 => ?_⟩
  refine ⟨B, st2, d1, d2, _, o2, r1.grow g2, r2, h2, fun b hp => ⟨b, rfl, ?_⟩⟩
  cases b with
  | true =>
    simp only [if_true] at hp ⊢
    refine ⟨B, ρ, st2, _, r.step (g1.trans g2) o2, hp, fun d3 st3 v3 H3 h3 r3 o3 g3 => ?_⟩
    exact ⟨B, st3, d2, d3, _, o3, r2.grow g3, r3, h3, fun b hp => q (.bl b) st3 (.bl b) H3 hp (.bl b) o3 (g1.trans (g2.trans g3))⟩
  | false =>
    simp only [Bool.false_eq_true, if_false] at hp ⊢
    exact q (.bl false) st2 (.bl false) H2 hp (.bl false) o2 (g1.trans g2)
theorem s_cmp2 {a b c : Expr} {ma mb mc : M} {op op' : CmpOp} {k k' : Store → D → D → (Bool → Prop) → Prop} (ho : OpR X (compareOp op) (rC W k)) (ho' : OpR X (compareOp op') (rC W k')) (ha : PE X a (LE W ma)) (hb : PE X b (LE W mb)) (hc : PE X c (LE W mc))
    (h1 : lastMarks [op, op'] [b, c] = false) : PE X (.Compare a [op, op'] [b, c] pos) (LE W fun ρ st P => ma ρ st fun x st1 => mb ρ st1 fun y st2 => k st2 x y fun z =>
      if z = true then mc ρ st2 fun w st3 => k' st3 y w fun z' => P (.bl z') st3 else P (.bl false) st2) := (pe_chain ho ho' ha hb hc h1).mono lift3c

theorem s_cmp2T {a b c : Expr} {ma mb mc : M} {op op' : CmpOp} {k k' : Store → D → D → (Bool → Prop) → Prop} (ho : OpR X (compareOp op) (rC W k)) (ho' : OpR X (compareOp op') (rC W k')) (ha : PE X a (LE W ma)) (hb : PE X b (LE W mb)) (hc : PE X c (LE W mc))
    (h1 : lastMarks [op, op'] [b, c] = false) : PT X (.Compare a [op, op'] [b, c] pos) (LT W fun ρ st P => ma ρ st fun x st1 => mb ρ st1 fun y st2 => k st2 x y fun z =>
      if z = true then mc ρ st2 fun w st3 => k' st3 y w fun z' => P (.bl z') st3 else P (.bl false) st2) := by
  refine (pt_chain ho ho' ha hb hc h1).mono fun σ H Q hq => ?_
  obtain ⟨B, ρ, st, P, r, h, q⟩ := hq
  refine ⟨B, ρ, st, _, r, h, fun d1 st1 v1 H1 h1 r1 o1 g1 => ?_⟩
  refine ⟨B, ρ, st1, _, r.step g1 o1, h1, fun d2 st2 v2 H2 h2 r2 o2 g2 => ?_⟩
  refine ⟨B, st2, d1, d2, _, o2, r1.grow g2, r2, h2, fun b hp => ⟨b, rfl, ?_⟩⟩
  cases b with
  | true =>
    simp only [if_true] at hp ⊢
    refine ⟨B, ρ, st2, _, r.step (g1.trans g2) o2, hp, fun d3 st3 v3 H3 h3 r3 o3 g3 => ?_⟩
    refine ⟨B, st3, d2, d3, _, o3, r2.grow g3, r3, h3, fun b hp => ?_⟩
    obtain ⟨b', e, z⟩ := q _ _ _ hp o3 (g1.trans (g2.trans g3))
    cases e
    exact ⟨b, rfl, z⟩
  | false =>
    simp only [Bool.false_eq_true, if_false] at hp ⊢
    obtain ⟨b', e, z⟩ := q _ _ _ hp o2 (g1.trans g2)
    cases e
    exact ⟨false, rfl, z⟩

/-! ### arguments -/
theorem s_nil : PA X [] (LA W fun _ st Q => Q [] st) := PA.mono pa_nil fun σ H Q ⟨B, ρ, st, P, r, k, q⟩ => q [] st [] H k .nil r.ob (Grow.refl _ _)
theorem s_cons {e : Expr} {es : List Expr} {m : M} {ms : MA} (ha : PE X e (LE W m)) (hb : PA X es (LA W ms)) (hs : starEach (e :: es) X.env = (false, eval e X.env) :: starEach es X.env) :
    PA X (e :: es) (LA W fun ρ st Q => m ρ st fun d st1 => ms ρ st1 fun ds st2 => Q (d :: ds) st2) := by
  refine PA.mono (pa_cons ha hb hs) fun σ H Q ⟨B, ρ, st, P, r, h, q⟩ => ?_
  refine ⟨B, ρ, st, _, r, h, fun d1 st1 v1 H1 h1 r1 o1 g1 => ?_⟩
  refine ⟨B, ρ, st1, _, r.step g1 o1, h1, fun d2 st2 v2 H2 h2 r2 o2 g2 => ?_⟩
  exact q _ _ _ _ h2 (.cons (r1.grow g2) r2) o2 (g1.trans g2)
theorem s_tup {es : List Expr} {ms : MA} {k : Nat} (h : PA X es (LA W ms)) : PE X (.Tuple es k pos) (LE W fun ρ st Q => ms ρ st fun ds st1 => ds.length ≤ sizeLine ∧ Q (.tup ds) st1) := by
  refine PE.mono (pe_xTup h) fun σ H Q ⟨B, ρ, st, P, r, h, q⟩ => ?_
  refine ⟨B, ρ, st, _, r, h, fun d1 st1 v1 H1 h1 r1 o1 g1 => ⟨by rw [r1.length]; exact h1.1, fun p o hp hd => ?_⟩⟩
  exact q _ st1 _ _ h1.2 (Rep.newTup o1 hp hd r1) (o1.same (same_upd hp)) (g1.trans (Grow.same (same_upd hp)))

/-! ### and, or, not, if -/
theorem tru_of {B : Addr → Prop} {st : Store} {H : Hp} {v : V} {d : D} {b : Bool} (r : Rep W B st H v d) (e : truth d = some b) : TruV W.K v H b := by
  cases r with
  | non => cases e; rfl
  | bl b => cases e; rfl
  | int i => cases e; show decide (i ≠ 0) = (i != 0); rw [Bool.eq_iff_iff]; simp
  | str x =>
    unfold truth at e
    dsimp only at e
    split at e
    · rename_i hx
      cases e
      refine ⟨Nat.le_trans hx (by decide), ?_⟩
      rw [Bool.eq_iff_iff]; simp
    · cases e
  | tup f l =>
    cases e
    rename_i a vs ds
    refine .inr (.inl ⟨vs, f.sq, ?_⟩)
    cases l <;> rfl
  | lst z f l =>
    cases e
    rename_i a vs ds
    refine .inl ⟨vs, .of f, ?_⟩
    cases l <;> rfl
  | _ => cases e
theorem s_one {op : BoolOp} {a : Expr} {m : M} (h : PE X a (LE W m)) : PE X (.BoolOp op [a] pos) (LE W m) := pe_one h
theorem s_and {a b : Expr} {rest : List Expr} {ma mb : M} (hK : X.K = W.K) (ha : PE X a (LE W ma)) (hb : PE X (.BoolOp .And (b :: rest) pos) (LE W mb)) :
    PE X (.BoolOp .And (a :: b :: rest) pos) (LE W fun ρ st Q => ma ρ st fun d st1 => ∃ t, d = .bl t ∧ (if t = true then mb ρ st1 Q else Q d st1)) := by
  refine PE.mono (pe_andT ha hb) fun σ H Q ⟨B, ρ, st, P, r, h, q⟩ => ?_
  refine ⟨B, ρ, st, _, r, h, fun d1 st1 v1 H1 ⟨t, h1, h2⟩ r1 o1 g1 => ⟨t, by rw [hK]; exact tru_of r1 (by first | exact h1 | (rw [h1]; rfl)), ?_⟩⟩
  cases t with
  | true => simp only [if_true] at h2 ⊢; exact ⟨B, ρ, st1, P, r.step g1 o1, h2, fun d2 st2 v2 H2 h3 r2 o2 g2 => q _ _ _ _ h3 r2 o2 (g1.trans g2)⟩
  | false => simp only [Bool.false_eq_true, if_false] at h2 ⊢; exact q _ _ _ _ h2 r1 o1 g1
theorem s_or {a b : Expr} {rest : List Expr} {ma mb : M} (hK : X.K = W.K) (ha : PE X a (LE W ma)) (hb : PE X (.BoolOp .Or (b :: rest) pos) (LE W mb)) :
    PE X (.BoolOp .Or (a :: b :: rest) pos) (LE W fun ρ st Q => ma ρ st fun d st1 => ∃ t, d = .bl t ∧ (if t = false then mb ρ st1 Q else Q d st1)) := by
  refine PE.mono (pe_orT ha hb) fun σ H Q ⟨B, ρ, st, P, r, h, q⟩ => ?_
  refine ⟨B, ρ, st, _, r, h, fun d1 st1 v1 H1 ⟨t, h1, h2⟩ r1 o1 g1 => ⟨t, by rw [hK]; exact tru_of r1 (by first | exact h1 | (rw [h1]; rfl)), ?_⟩⟩
  cases t with
  | false => simp only [if_true, Bool.false_eq_true, if_false] at h2 ⊢; exact ⟨B, ρ, st1, P, r.step g1 o1, h2, fun d2 st2 v2 H2 h3 r2 o2 g2 => q _ _ _ _ h3 r2 o2 (g1.trans g2)⟩
  | true => simp only [Bool.true_eq_false, if_false, if_true] at h2 ⊢; exact q _ _ _ _ h2 r1 o1 g1
theorem s_orv {a b : Expr} {rest : List Expr} {ma mb : M} (hK : X.K = W.K) (ha : PE X a (LE W ma)) (hb : PE X (.BoolOp .Or (b :: rest) pos) (LE W mb)) :
    PE X (.BoolOp .Or (a :: b :: rest) pos) (LE W fun ρ st Q => ma ρ st fun d st1 => ∃ t, truth d = some t ∧ (if t = false then mb ρ st1 Q else Q d st1)) := by
  refine PE.mono (pe_orT ha hb) fun σ H Q ⟨B, ρ, st, P, r, h, q⟩ => ?_
  refine ⟨B, ρ, st, _, r, h, fun d1 st1 v1 H1 ⟨t, h1, h2⟩ r1 o1 g1 => ⟨t, by rw [hK]; exact tru_of r1 (by first | exact h1 | (rw [h1]; rfl)), ?_⟩⟩
  cases t with
  | false => simp only [if_true, Bool.false_eq_true, if_false] at h2 ⊢; exact ⟨B, ρ, st1, P, r.step g1 o1, h2, fun d2 st2 v2 H2 h3 r2 o2 g2 => q _ _ _ _ h3 r2 o2 (g1.trans g2)⟩
  | true => simp only [Bool.true_eq_false, if_false, if_true] at h2 ⊢; exact q _ _ _ _ h2 r1 o1 g1
/-! the same as tests -/
theorem w_one {a : Expr} {m : M} {op : BoolOp} (h : PT X a (LT W m)) : PW X (.BoolOp op [a] pos) (LT W m) := by
  cases op with
  | And => exact pw_and1 h
  | Or => exact pw_or1 h
theorem _root_.L2.PW.mono {X : Cx} {e : Expr} {t t' : TT} (h : PW X e t) (i : ∀ σ H Q, t' σ H Q → t σ H Q) : PW X e t' := ⟨fun wh pins s σ H Q I w => h.run wh pins s σ H Q I (i σ H Q w)⟩
theorem w_and {a b : Expr} {rest : List Expr} {ma mb : M} (ha : PT X a (LT W ma)) (hb : PW X (.BoolOp .And (b :: rest) pos) (LT W mb)) :
    PW X (.BoolOp .And (a :: b :: rest) pos) (LT W fun ρ st Q => ma ρ st fun d st1 => ∃ t, d = .bl t ∧ (if t = true then mb ρ st1 Q else Q d st1)) := by
  refine PW.mono (pw_and ha hb) fun σ H Q ⟨B, ρ, st, P, r, h, q⟩ => ?_
  refine ⟨B, ρ, st, _, r, h, fun d1 st1 H1 ⟨t, h1, h2⟩ o1 g1 => ⟨t, h1, ?_⟩⟩
  cases t with
  | true => simp only [if_true] at h2 ⊢; exact ⟨B, ρ, st1, P, r.step g1 o1, h2, fun d2 st2 H2 h3 o2 g2 => q _ _ _ h3 o2 (g1.trans g2)⟩
  | false =>
    simp only [Bool.false_eq_true, if_false] at h2 ⊢
    obtain ⟨b', e, z⟩ := q _ _ _ h2 o1 g1
    rw [h1] at e; cases e; exact z
theorem w_or {a b : Expr} {rest : List Expr} {ma mb : M} (ha : PT X a (LT W ma)) (hb : PW X (.BoolOp .Or (b :: rest) pos) (LT W mb)) :
    PW X (.BoolOp .Or (a :: b :: rest) pos) (LT W fun ρ st Q => ma ρ st fun d st1 => ∃ t, d = .bl t ∧ (if t = false then mb ρ st1 Q else Q d st1)) := by
  refine PW.mono (pw_or ha hb) fun σ H Q ⟨B, ρ, st, P, r, h, q⟩ => ?_
  refine ⟨B, ρ, st, _, r, h, fun d1 st1 H1 ⟨t, h1, h2⟩ o1 g1 => ⟨t, h1, ?_⟩⟩
  cases t with
  | false => simp only [if_true, Bool.false_eq_true, if_false] at h2 ⊢; exact ⟨B, ρ, st1, P, r.step g1 o1, h2, fun d2 st2 H2 h3 o2 g2 => q _ _ _ h3 o2 (g1.trans g2)⟩
  | true =>
    simp only [Bool.true_eq_false, if_false, if_true] at h2 ⊢
    obtain ⟨b', e, z⟩ := q _ _ _ h2 o1 g1
    rw [h1] at e; cases e; exact z
theorem s_not {a : Expr} {m : M} (h : PE X a (LE W m)) : PE X (.UnaryOp .Not a pos) (LE W fun ρ st Q => m ρ st fun x st1 => ∃ b, x = .bl b ∧ Q (.bl (!b)) st1) := by
  refine PE.mono (pe_not h) fun σ H Q ⟨B, ρ, st, P, r, h, q⟩ => ?_
  refine ⟨B, ρ, st, _, r, h, fun d1 st1 v1 H1 ⟨b, h1, h2⟩ r1 o1 g1 => ?_⟩
  subst h1; cases r1
  exact ⟨b, rfl, q _ _ _ _ h2 (.bl _) o1 g1⟩
theorem t_not {a : Expr} {m : M} (h : PT X a (LT W m)) : PT X (.UnaryOp .Not a pos) (LT W fun ρ st Q => m ρ st fun x st1 => ∃ b, x = .bl b ∧ Q (.bl (!b)) st1) := by
  refine PT.mono (pt_not h) fun σ H Q ⟨B, ρ, st, P, r, h, q⟩ => ?_
  refine ⟨B, ρ, st, _, r, h, fun d1 st1 H1 ⟨b, h1, h2⟩ o1 g1 => ⟨b, h1, ?_⟩⟩
  obtain ⟨b', e, z⟩ := q _ _ _ h2 o1 g1
  cases e; exact z
theorem s_ite {c a b : Expr} {mc ma mb : M} (hc : PT X c (LT W mc)) (ha : PE X a (LE W ma)) (hb : PE X b (LE W mb)) :
    PE X (.IfExp c a b pos) (LE W fun ρ st Q => mc ρ st fun x st1 => ∃ c, x = .bl c ∧ (if c = true then ma ρ st1 Q else mb ρ st1 Q)) := by
  refine PE.mono (pe_ifExp hc ha hb) fun σ H Q ⟨B, ρ, st, P, r, h, q⟩ => ?_
  refine ⟨B, ρ, st, _, r, h, fun d1 st1 H1 ⟨t, h1, h2⟩ o1 g1 => ⟨t, h1, ?_⟩⟩
  cases t with
  | true => simp only [if_true] at h2 ⊢; exact ⟨B, ρ, st1, P, r.step g1 o1, h2, fun d2 st2 v2 H2 h3 r2 o2 g2 => q _ _ _ _ h3 r2 o2 (g1.trans g2)⟩
  | false => simp only [Bool.false_eq_true, if_false] at h2 ⊢; exact ⟨B, ρ, st1, P, r.step g1 o1, h2, fun d2 st2 v2 H2 h3 r2 o2 g2 => q _ _ _ _ h3 r2 o2 (g1.trans g2)⟩
theorem s_neg {a : Expr} {m : M} (h : PE X a (LE W m)) : PE X (.UnaryOp .USub a pos) (LE W fun ρ st Q => m ρ st fun x st1 => ∃ i, x = .int i ∧ Q (.int (-i)) st1) := by
  refine PE.mono (pe_un un_neg h) fun σ H Q ⟨B, ρ, st, P, r, h, q⟩ => ?_
  refine ⟨B, ρ, st, _, r, h, fun d1 st1 v1 H1 ⟨b, h1, h2⟩ r1 o1 g1 => ?_⟩
  subst h1; cases r1
  exact ⟨b, rfl, q _ _ _ _ h2 (.int _) o1 g1⟩

/-! ### subscripts -/
theorem at_rep {B : Addr → Prop} {st : Store} {H : Hp} {vs : List V} {xs : List D} {j : Int} {d : D} (l : RepL W B st H vs xs) (e : atI xs j = some d) : ∃ v, atI vs j = some v ∧ Rep W B st H v d := by
  unfold atI at e ⊢
  rw [l.length]
  cases q : ixN xs.length j with
  | none => rw [q] at e; cases e
  | some n => rw [q] at e; exact l.get n d e
theorem ix_seqs (hK : X.K = W.K) : IxR X (r2 W fun st a i k => ∃ xs j d, seqOf st a = some xs ∧ i = .int j ∧ atI xs j = some d ∧ k d) := by
  intro value slice pins s σ H x y v u Q I rx ry ⟨B, st, d1, d2, P, h, r1, r2, ⟨xs, j, d, k1, k2, k3, k4⟩, q⟩ hs
  subst k2
  cases r2
  obtain ⟨a, vs, rfl, l, z⟩ := seq_of h r1 k1
  obtain ⟨w, e, rw'⟩ := at_rep l k3
  rcases z with z | z
  · exact ix_list value slice pins s σ H _ _ v u Q I rx ry ⟨_, _, _, _, rfl, rfl, by rw [hK]; exact z, e, q _ _ _ k4 rw' (Same.refl _)⟩ hs
  · exact ix_tup value slice pins s σ H _ _ v u Q I rx ry ⟨_, _, _, _, rfl, rfl, by rw [hK]; exact z, e, q _ _ _ k4 rw' (Same.refl _)⟩ hs
theorem s_idx {a b : Expr} {ma mb : M} {k : Store → D → D → (D → Prop) → Prop} (ho : IxR X (r2 W k)) (ha : PE X a (LE W ma)) (hb : PE X b (LE W mb)) (hs : PlainIx b) :
    PE X (.Subscript a b pos) (LE W fun ρ st P => ma ρ st fun x st1 => mb ρ st1 fun y st2 => k st2 x y fun z => P z st2) := (pe_ix ho ha hb hs).mono lift2
/-! slices -/
abbrev MO := Env → Store → (Option Int → Store → Prop) → Prop
def LO (W : Wd) (m : MO) : TO := fun σ H Q => ∃ B ρ st P, R W B ρ st σ H ∧ m ρ st P ∧ ∀ d st' H', P d st' → RH W B st' H' → Grow st H st' H' → Q d H'
theorem _root_.L2.PO.mono {X : Cx} {e : Option Expr} {t t' : TO} (h : PO X e t) (i : ∀ σ H Q, t' σ H Q → t σ H Q) : PO X e t' := ⟨fun pins s σ H Q I w => h.run pins s σ H Q I (i σ H Q w)⟩
theorem _root_.L2.PO.to {e : Option Expr} {m m' : MO} (h : PO X e (LO W m)) (i : m' = m) : PO X e (LO W m') := by rw [i]; exact h
theorem o_none : PO X none (LO W fun _ st Q => Q none st) := po_none.mono fun σ H Q ⟨B, ρ, st, P, r, k, q⟩ => q _ _ _ k r.ob (Grow.refl _ _)
/-- a bound that is a whole number -/
theorem o_some {e : Expr} {m : M} (h : PE X e (LE W m)) : PO X (some e) (LO W fun ρ st Q => m ρ st fun d st1 => ∃ i, d = .int i ∧ Q (some i) st1) := (po_some h).mono fun σ H Q ⟨B, ρ, st, P, r, k, q⟩ => by
  refine ⟨B, ρ, st, _, r, k, fun d st1 v H1 ⟨i, h1, h2⟩ r1 o1 g1 => ?_⟩
  subst h1; cases r1
  exact ⟨i, rfl, q _ _ _ h2 o1 g1⟩
theorem RepL.cut {B : Addr → Prop} {st : Store} {H : Hp} {vs : List V} {ds : List D} (r : RepL W B st H vs ds) (lo hi : Option Int) : RepL W B st H (cutV vs lo hi) (cutD ds lo hi) := by
  unfold cutV cutD
  rw [r.length]
  exact (r.drop _).take _
theorem cutD_all {ds : List D} {lo hi : Option Int} (h : HT.sIx ds.length 0 lo = 0 ∧ HT.sIx ds.length ds.length hi = ds.length) : cutD ds lo hi = ds := by
  unfold cutD
  rw [h.1, h.2]
  simp
theorem s_slc {a : Expr} {lo hi : Option Expr} {p2 : Pos} {ma : M} {ml mh : MO} (hK : X.K = W.K) (ha : PE X a (LE W ma)) (hl : PO X lo (LO W ml)) (hh : PO X hi (LO W mh)) :
    PE X (.Subscript a (.Slice lo hi none p2) pos) (LE W fun ρ st Q => ma ρ st fun x st1 => ml ρ st1 fun y st2 => mh ρ st2 fun z st3 => slcR x y z fun r => Q r st3) := by
  refine (pe_slice ((sl_x.or sl_str).or sl_list) ha hl hh).mono fun σ H Q ⟨B, ρ, st, P, r, h, q⟩ => ?_
  refine ⟨B, ρ, st, _, r, h, fun d1 st1 v1 H1 h1 r1 o1 g1 => ?_⟩
  refine ⟨B, ρ, st1, _, r.step g1 o1, h1, fun d2 st2 H2 h2 o2 g2 => ?_⟩
  refine ⟨B, ρ, st2, _, r.step (g1.trans g2) o2, h2, fun d3 st3 H3 h3 o3 g3 => ?_⟩
  have r3 := r1.grow (g2.trans g3)
  have g4 := g1.trans (g2.trans g3)
  unfold slcR at h3
  split at h3
  · cases r3 with
    | tup f l =>
      refine .inl (.inl ⟨_, _, rfl, by rw [hK]; exact f.sq, fun e => ?_, fun e p o hp hd => ?_⟩)
      · rw [l.length] at e
        rw [cutD_all e] at h3
        exact q _ _ _ _ h3 (.tup f l) o3 g4
      · exact q _ _ _ _ h3 (Rep.newTup o3 hp hd (l.cut _ _)) (o3.same (same_upd hp)) (g4.trans (Grow.same (same_upd hp)))
  · cases r3
    exact .inl (.inr ⟨_, rfl, h3.1, q _ _ _ _ h3.2 (.str _) o3 g4⟩)
  · cases r3 with
    | lst z f l => exact .inr ⟨_, _, rfl, .of f, fun p hp => q _ _ _ _ h3 (Rep.newLst o3 hp (l.cut _ _)) (o3.same (same_upd hp)) (g4.trans (Grow.same (same_upd hp)))⟩
  · exact h3.elim
end
end G
/-! The small language: what makes new lists; what is walked; comprehensions. -/
namespace G
open PySem PySem.Spec PyProof.Rows L2
abbrev MP := Env → Store → (Ob → Store → Prop) → Prop
/-- a new object at p, not laid yet -/
def New (W : Wd) (B : Addr → Prop) (st : Store) (H : Hp) (p : Addr) (u : HO) : Ob → Prop
  | .lst ds => ∃ vs, u = .lst vs ∧ RepL W B st H vs ds
  | .dct kvs ep => ∃ es, u = .ext (RawD p es ep) ∧ (p == sysModules) = false ∧ RepK W B st H es kvs ∧ (kvs.map fun q => nk q.1).Nodup
  | .ins _ _ => False
def LP (W : Wd) (m : MP) : TE := fun σ H Q => ∃ B ρ st P, R W B ρ st σ H ∧ m ρ st P ∧
  ∀ o st' H' p u, P o st' → H' p = none → New W B st' H' p u o → RH W B st' H' → Grow st H st' H' → Q (.ref p) (upd H' p u)
section
variable {X : Cx} {W : Wd} {pos : Pos}
theorem _root_.L2.PE.toP {e : Expr} {m m' : MP} (h : PE X e (LP W m)) (i : m' = m) : PE X e (LP W m') := by rw [i]; exact h
theorem s_fr {e : Expr} {m : MP} (h : PE X e (LP W m)) : PE X e (LE W fun ρ st Q => m ρ st fun o st1 => match o with
    | .lst ds => Q (.lst ds) st1
    | .dct kvs _ => Q (.dct kvs) st1
    | _ => False) := by
  refine h.mono fun σ H Q ⟨B, ρ, st, P, r, h, q⟩ => ⟨B, ρ, st, _, r, h, fun o st1 H1 p u h1 hp n o1 g1 => ?_⟩
  cases o with
  | lst ds =>
    obtain ⟨vs, rfl, l⟩ := n
    exact q _ _ _ _ h1 (Rep.newLst o1 hp l) (o1.same (same_upd hp)) (g1.trans (Grow.same (same_upd hp)))
  | dct kvs =>
    obtain ⟨es, rfl, hs, l, nd⟩ := n
    exact q _ _ _ _ h1 (.dct (o1.free hp) upd_same hs (l.grow (Grow.same (same_upd hp))) nd) (o1.same (same_upd hp)) (g1.trans (Grow.same (same_upd hp)))
  | ins _ _ => exact n.elim
theorem s_bx {e : Expr} {m : MP} (h : PE X e (LP W m)) : PE X e (LE W fun ρ st Q => m ρ st fun o st1 => ∀ a, st1 a = none → Q (.loc a) (st1.set a o)) := by
  refine h.mono fun σ H Q ⟨B, ρ, st, P, r, h, q⟩ => ⟨B, ρ, st, _, r, h, fun o st1 H1 p u h1 hp n o1 g1 => ?_⟩
  obtain ⟨o2, g2⟩ := o1.alloc (u := u) (o' := o) hp fun g => by
    cases o with
    | lst ds => obtain ⟨vs, rfl, l⟩ := n; exact ⟨vs, upd_same, l.grow g⟩
    | dct kvs => obtain ⟨es, rfl, hs, l, nd⟩ := n; exact ⟨es, upd_same, hs, l.grow g, nd⟩
    | ins _ _ => exact n.elim
  exact q _ _ _ _ (h1 p (o1.free hp).1) (.loc p) o2 (g1.trans g2)
/-! ### lists -/
theorem p_disp {es : List Expr} {ms : MA} (h : PA X es (LA W ms)) : PE X (.List es pos) (LP W fun ρ st Q => ms ρ st fun ds st1 => ds.length ≤ sizeLine ∧ Q (.lst ds) st1) := by
  refine (pe_lst h).mono fun σ H Q ⟨B, ρ, st, P, r, h, q⟩ => ⟨B, ρ, st, _, r, h, fun d1 st1 v1 H1 h1 r1 o1 g1 => ⟨by rw [r1.length]; exact h1.1, fun p hp => ?_⟩⟩
  exact q _ _ _ _ _ h1.2 hp ⟨_, rfl, r1⟩ o1 g1
theorem p_cat {a b : Expr} {ma mb : M} (ha : PE X a (LE W ma)) (hb : PE X b (LE W mb)) : PE X (.BinOp a .Add b pos) (LP W fun ρ st Q => ma ρ st fun x st1 => mb ρ st1 fun y st2 =>
    ∃ xs ys, lstOf st2 x = some xs ∧ lstOf st2 y = some ys ∧ xs.length + ys.length ≤ sizeLine ∧ Q (.lst (xs ++ ys)) st2) := by
  refine (pe_op op_cat ha hb).mono fun σ H Q ⟨B, ρ, st, P, r, h, q⟩ => ?_
  refine ⟨B, ρ, st, _, r, h, fun d1 st1 v1 H1 h1 r1 o1 g1 => ?_⟩
  refine ⟨B, ρ, st1, _, r.step g1 o1, h1, fun d2 st2 v2 H2 ⟨xs, ys, e1, e2, hz, h2⟩ r2 o2 g2 => ?_⟩
  obtain ⟨a1, vs, rfl, l1, w1⟩ := lst_of o2 (r1.grow g2) e1
  obtain ⟨a2, us, rfl, l2, w2⟩ := lst_of o2 r2 e2
  exact ⟨_, _, _, _, rfl, rfl, w1, w2, by rw [l1.length, l2.length]; exact hz, fun p hp => q _ _ _ _ _ h2 hp ⟨_, rfl, l1.app l2⟩ o2 (g1.trans g2)⟩
theorem p_rep {a b : Expr} {ma mb : M} (ha : PE X a (LE W ma)) (hb : PE X b (LE W mb)) : PE X (.BinOp a .Mult b pos) (LP W fun ρ st Q => ma ρ st fun x st1 => mb ρ st1 fun y st2 =>
    ∃ xs j, lstOf st2 x = some xs ∧ y = .int j ∧ 0 < j ∧ j ≤ 100 ∧ xs.length ≤ 1000 ∧ Q (.lst (List.replicate j.toNat xs).flatten) st2) := by
  refine (pe_op op_rep ha hb).mono fun σ H Q ⟨B, ρ, st, P, r, h, q⟩ => ?_
  refine ⟨B, ρ, st, _, r, h, fun d1 st1 v1 H1 h1 r1 o1 g1 => ?_⟩
  refine ⟨B, ρ, st1, _, r.step g1 o1, h1, fun d2 st2 v2 H2 ⟨xs, j, e1, e2, hz, hz2, hz3, h2⟩ r2 o2 g2 => ?_⟩
  subst e2; cases r2
  obtain ⟨a1, vs, rfl, l1, w1⟩ := lst_of o2 (r1.grow g2) e1
  refine ⟨_, _, _, rfl, rfl, w1, by omega, by omega, ?_, fun p hp => q _ _ _ _ _ h2 hp ⟨_, rfl, l1.rep _⟩ o2 (g1.trans g2)⟩
  rw [l1.length, sizeLine_eq]
  have : xs.length * j.toNat ≤ 1000 * 100 := Nat.mul_le_mul hz3 (by omega)
  omega
theorem p_slc {a : Expr} {lo hi : Option Expr} {p2 : Pos} {ma : M} {ml mh : MO} (hK : X.K = W.K) (ha : PE X a (LE W ma)) (hl : PO X lo (LO W ml)) (hh : PO X hi (LO W mh)) :
    PE X (.Subscript a (.Slice lo hi none p2) pos) (LP W fun ρ st Q => ma ρ st fun x st1 => ml ρ st1 fun y st2 => mh ρ st2 fun z st3 => slcL st3 x y z fun r => Q (.lst r) st3) := by
  refine (pe_slice sl_list ha hl hh).mono fun σ H Q ⟨B, ρ, st, P, r, h, q⟩ => ?_
  refine ⟨B, ρ, st, _, r, h, fun d1 st1 v1 H1 h1 r1 o1 g1 => ?_⟩
  refine ⟨B, ρ, st1, _, r.step g1 o1, h1, fun d2 st2 H2 h2 o2 g2 => ?_⟩
  refine ⟨B, ρ, st2, _, r.step (g1.trans g2) o2, h2, fun d3 st3 H3 h3 o3 g3 => ?_⟩
  obtain ⟨xs, e, h3⟩ := h3
  obtain ⟨a1, vs, rfl, l1, w1⟩ := lst_of o3 (r1.grow (g2.trans g3)) e
  exact ⟨_, _, rfl, .of w1, fun p hp => q _ _ _ _ _ h3 hp ⟨_, rfl, l1.cut _ _⟩ o3 (g1.trans (g2.trans g3))⟩
theorem p_rev {a : Expr} {k : Nat} {p1 p2 p3 : Pos} {ma : M} (ha : PE X a (LE W ma)) :
    PE X (.Subscript a (.Slice none none (some (.UnaryOp .USub (.Constant (.int 1) k p1) p2)) p3) pos) (LP W fun ρ st Q => ma ρ st fun x st1 => ∃ xs, lstOf st1 x = some xs ∧ Q (.lst xs.reverse) st1) := by
  refine (pe_revL ha).mono fun σ H Q ⟨B, ρ, st, P, r, h, q⟩ => ?_
  refine ⟨B, ρ, st, _, r, h, fun d1 st1 v1 H1 ⟨xs, e, h1⟩ r1 o1 g1 => ?_⟩
  obtain ⟨a1, vs, rfl, l1, w1⟩ := lst_of o1 r1 e
  exact ⟨_, _, rfl, .of w1, fun p hp => q _ _ _ _ _ h1 hp ⟨_, rfl, l1.rev⟩ o1 g1⟩

/-! ### calls of built-ins -/
theorem _root_.L2.CallR.imp {f : Value} {r r' : List V → Hp → VK → Prop} (h : CallR X f r) (i : ∀ xs H Q, r' xs H Q → r xs H Q) : CallR X f r' := fun pins s σ H xs us Q I rx q => h pins s σ H xs us Q I rx (i _ _ _ q)
/-- what a built-in gives that makes nothing to be told but what stands still -/
def rB (W : Wd) (k : Store → D → (D → Prop) → Prop) : List V → Hp → VK → Prop := fun xs H Q => ∃ B st v d P, xs = [v] ∧ RH W B st H ∧ Rep W B st H v d ∧ k st d P ∧ ∀ d v H', P d → Rep W B st H' v d → Same H H' → Q v H'
def rB2 (W : Wd) (k : Store → D → D → (D → Prop) → Prop) : List V → Hp → VK → Prop := fun xs H Q => ∃ B st v1 v2 d1 d2 P, xs = [v1, v2] ∧ RH W B st H ∧ Rep W B st H v1 d1 ∧ Rep W B st H v2 d2 ∧ k st d1 d2 P ∧ ∀ d v H', P d → Rep W B st H' v d → Same H H' → Q v H'
/-- what gives a new list or dict -/
def rN (W : Wd) (k : Store → D → (Ob → Prop) → Prop) : List V → Hp → VK → Prop := fun xs H Q => ∃ B st v d P, xs = [v] ∧ RH W B st H ∧ Rep W B st H v d ∧ k st d P ∧ ∀ o p u, P o → H p = none → New W B st H p u o → Q (.ref p) (upd H p u)
theorem liftB {ms : M} {k : Store → D → (D → Prop) → Prop} : ∀ σ H Q, LE W (fun ρ st P => ms ρ st fun ds st1 => k st1 ds fun z => P z st1) σ H Q → tCB (rB W k) (tCons (LE W ms) tNil) σ H Q := by
  intro σ H Q ⟨B, ρ, st, P, r, h, q⟩
  exact ⟨B, ρ, st, _, r, h, fun d1 st1 v1 H1 h1 r1 o1 g1 => ⟨B, st1, v1, d1, _, rfl, o1, r1, h1, fun d v H' hp rv s => q d st1 v H' hp rv (o1.same s) (g1.trans (Grow.same s))⟩⟩
theorem liftB2 {ma mb : M} {k : Store → D → D → (D → Prop) → Prop} : ∀ σ H Q, LE W (fun ρ st P => ma ρ st fun x st1 => mb ρ st1 fun y st2 => k st2 x y fun z => P z st2) σ H Q → tCB (rB2 W k) (tCons (LE W ma) (tCons (LE W mb) tNil)) σ H Q := by
  intro σ H Q ⟨B, ρ, st, P, r, h, q⟩
  refine ⟨B, ρ, st, _, r, h, fun d1 st1 v1 H1 h1 r1 o1 g1 => ⟨B, ρ, st1, _, r.step g1 o1, h1, fun d2 st2 v2 H2 h2 r2 o2 g2 => ?_⟩⟩
  exact ⟨B, st2, v1, v2, d1, d2, _, rfl, o2, r1.grow g2, r2, h2, fun d v H' hp rv s => q d st2 v H' hp rv (o2.same s) (g1.trans (g2.trans (Grow.same s)))⟩
theorem liftN {ms : M} {k : Store → D → (Ob → Prop) → Prop} : ∀ σ H Q, LP W (fun ρ st P => ms ρ st fun ds st1 => k st1 ds fun z => P z st1) σ H Q → tCB (rN W k) (tCons (LE W ms) tNil) σ H Q := by
  intro σ H Q ⟨B, ρ, st, P, r, h, q⟩
  exact ⟨B, ρ, st, _, r, h, fun d1 st1 v1 H1 h1 r1 o1 g1 => ⟨B, st1, v1, d1, _, rfl, o1, r1, h1, fun o p u hp hn n => q o st1 H1 p u hp hn n o1 g1⟩⟩
theorem vals_bl {B : Addr → Prop} {st : Store} {H : Hp} : ∀ {vs : List V} {ds : List D} {bs : List Bool}, RepL W B st H vs ds → boolsD ds = some bs → vs = bs.map V.bl
  | _, _, _, .nil, e => by cases e; rfl
  | _, _, _, .cons r t, e => by
    cases r <;> simp [boolsD] at e
    obtain ⟨bs', e1, rfl⟩ := e
    rw [vals_bl t e1]; rfl
theorem vals_int {B : Addr → Prop} {st : Store} {H : Hp} : ∀ {vs : List V} {ds : List D} {bs : List Int}, RepL W B st H vs ds → intsD ds = some bs → vs = bs.map V.int
  | _, _, _, .nil, e => by cases e; rfl
  | _, _, _, .cons r t, e => by
    cases r <;> simp [intsD] at e
    obtain ⟨bs', e1, rfl⟩ := e
    rw [vals_int t e1]; rfl
theorem bi_tuple (hK : X.K = W.K) : CallR X (.type "tuple") (rB W fun st => biR st .tuple) := by
  refine cr_xTo.imp fun xs H Q ⟨B, st, v, d, P, e0, h, r, ⟨ys, e, hp⟩, q⟩ => ?_
  subst e0
  cases r with
  | tup f l => cases e; exact ⟨_, _, rfl, .inr ⟨by rw [hK]; exact f.sq, q _ _ _ hp (.tup f l) (Same.refl _)⟩⟩
  | lst z f l => cases e; exact ⟨_, _, rfl, .inl ⟨.of f, fun p o hn hd => q _ _ _ hp (Rep.newTup h hn hd l) (same_upd hn)⟩⟩
  | ro f l => cases e; exact ⟨_, _, rfl, .inl ⟨by rw [hK]; exact f.sq, fun p o hn hd => q _ _ _ hp (Rep.newTup h hn hd l) (same_upd hn)⟩⟩
  | loc a =>
    obtain ⟨vs, f, l⟩ := h.ob _ _ (seqOf_loc e)
    exact ⟨_, _, rfl, .inl ⟨.of f, fun p o hn hd => q _ _ _ hp (Rep.newTup h hn hd l) (same_upd hn)⟩⟩
  | _ => cases e
theorem bi_all (hc : X.calm = true) : CallR X (.builtin "all") (rB W fun st => biR st .all) := by
  refine (cr_all hc).imp fun xs H Q ⟨B, st, v, d, P, e0, h, r, ⟨ys, bs, e, e2, hp⟩, q⟩ => ?_
  subst e0
  obtain ⟨a, vs, rfl, l, w⟩ := lst_of h r e
  exact ⟨a, bs, rfl, by rw [← vals_bl l e2]; exact .of w, q _ _ _ hp (.bl _) (Same.refl _)⟩
theorem bi_any (hc : X.calm = true) : CallR X (.builtin "any") (rB W fun st => biR st .any) := by
  refine (cr_any hc).imp fun xs H Q ⟨B, st, v, d, P, e0, h, r, ⟨ys, bs, e, e2, hp⟩, q⟩ => ?_
  subst e0
  obtain ⟨a, vs, rfl, l, w⟩ := lst_of h r e
  exact ⟨a, bs, rfl, by rw [← vals_bl l e2]; exact .of w, q _ _ _ hp (.bl _) (Same.refl _)⟩
theorem bi_sum (hc : X.calm = true) : CallR X (.builtin "sum") (rB W fun st => biR st .sum) := by
  refine (cr_sum hc).imp fun xs H Q ⟨B, st, v, d, P, e0, h, r, ⟨ys, bs, e, e2, hp⟩, q⟩ => ?_
  subst e0
  obtain ⟨a, vs, rfl, l, w⟩ := lst_of h r e
  exact ⟨a, bs, rfl, by rw [← vals_int l e2]; exact .of w, q _ _ _ hp (.int _) (Same.refl _)⟩
theorem bi_int : CallR X (.type "int") (rB W fun st => biR st .int) := by
  refine call_int1.imp fun xs H Q ⟨B, st, v, d, P, e0, h, r, k, q⟩ => ?_
  subst e0
  rcases k with ⟨i, rfl, hp⟩ | ⟨b, rfl, hp⟩
  · cases r; exact .inl ⟨_, rfl, q _ _ _ hp (.int _) (Same.refl _)⟩
  · cases r; exact .inr ⟨_, rfl, q _ _ _ hp (.int _) (Same.refl _)⟩
theorem bi_max2 (hc : X.calm = true) : CallR X (.builtin "max") (rB2 W fun _ => mxR true) := by
  refine (call_max2 hc).imp fun xs H Q ⟨B, st, v, v2, d, d2, P, e0, h, r, r2, ⟨i, j, e1, e2, hp⟩, q⟩ => ?_
  subst e0 e1 e2
  cases r; cases r2
  exact ⟨_, _, rfl, q _ _ _ hp (.int _) (Same.refl _)⟩
theorem bi_min2 (hc : X.calm = true) : CallR X (.builtin "min") (rB2 W fun _ => mxR false) := by
  refine (call_min2 hc).imp fun xs H Q ⟨B, st, v, v2, d, d2, P, e0, h, r, r2, ⟨i, j, e1, e2, hp⟩, q⟩ => ?_
  subst e0 e1 e2
  cases r; cases r2
  exact ⟨_, _, rfl, q _ _ _ hp (.int _) (Same.refl _)⟩
/-- len of a list, a tuple, a text (dicts: elsewhere) -/
theorem bi_len1 (hK : X.K = W.K) : CallR X (.builtin "len") (rB W fun st a k => (∃ xs, seqOf st a = some xs ∧ k (.int xs.length)) ∨ (∃ x, a = .str x ∧ x.length ≤ sizeLine ∧ k (.int x.length))) := by
  refine (call_len_seq.or call_len).imp fun xs H Q ⟨B, st, v, d, P, e0, h, r, k, q⟩ => ?_
  subst e0
  rcases k with ⟨ys, e, hp⟩ | ⟨x, rfl, hx, hp⟩
  · obtain ⟨b, vs, rfl, l, w⟩ := seq_of h r e
    exact .inl ⟨_, vs, rfl, by rw [hK]; exact w, by rw [l.length]; exact q _ _ _ hp (.int _) (Same.refl _)⟩
  · cases r
    exact .inr ⟨_, _, rfl, ⟨hx, rfl⟩, q _ _ _ hp (.int _) (Same.refl _)⟩
/-- list(xs), list(t) (dicts: elsewhere) -/
theorem bi_list1 (hK : X.K = W.K) : CallR X (.type "list") (rN W fun st a k => ∃ xs, seqOf st a = some xs ∧ k (.lst xs)) := by
  refine call_list_of.imp fun xs H Q ⟨B, st, v, d, P, e0, h, r, ⟨ys, e, hp⟩, q⟩ => ?_
  subst e0
  obtain ⟨b, vs, rfl, l, w⟩ := seq_of h r e
  exact ⟨_, vs, rfl, by rw [hK]; exact w, fun p hn => q _ _ _ hp hn ⟨vs, rfl, l⟩⟩
/-! isinstance -/
end
end G
/-! isinstance; what is walked; comprehensions. -/
namespace G
open PySem PySem.Spec PyProof.Rows L2 RZ
section
variable {X : Cx} {W : Wd} {pos : Pos}
/-! ### isinstance -/
def tyName : Ty → String
  | .int => "int" | .bool => "bool" | .str => "str" | .tuple => "tuple" | .list => "list" | .cls _ => ""
def dName : D → String
  | .non => "NoneType" | .bl _ => "bool" | .int _ => "int" | .str _ => "str" | .tup _ => "tuple" | .lst _ => "list" | _ => ""
theorem ty_of {B : Addr → Prop} {st : Store} {H : Hp} {v : V} {d : D} (h : RH W B st H) (r : Rep W B st H v d) {t : Ty} {b : Bool} (e : isTy t (rsv st d) = some b) : TyX W.K H v (.type (dName (rsv st d))) := by
  have no : ∀ a, st a = none → isTy t (.loc a) = some b → False := fun a _ z => by cases t <;> simp [isTy] at z
  cases r with
  | non => exact .base .non
  | bl b => exact .base (.bl b)
  | int i => exact .base (.int i)
  | str x => exact .base (.str x)
  | tup f l =>
    rcases f with ⟨_, o, _, f⟩ | ⟨o, its, n, _, f, c, _⟩
    · exact .fTuple f
    · exact .kTuple f c
  | lst z f l => exact .base (.lst f)
  | dct _ _ _ _ _ => cases t <;> simp [rsv, isTy] at e
  | ins _ _ _ _ => cases t <;> simp [rsv, isTy] at e
  | clo _ => cases t <;> simp [rsv, isTy] at e
  | ro _ _ => cases t <;> simp [rsv, isTy] at e
  | pr _ _ _ _ => cases t <;> simp [rsv, isTy] at e
  | loc a =>
    cases q : st a with
    | none => simp [rsv, q] at e; exact (no a q e).elim
    | some o =>
      cases o with
      | lst xs =>
        obtain ⟨vs, f, l⟩ := h.ob _ _ q
        simp only [rsv, q]
        exact .base (.lst f)
      | dct _ => simp [rsv, q] at e; cases t <;> simp [isTy] at e
      | ins _ _ => simp [rsv, q] at e; cases t <;> simp [isTy] at e
theorem kit_all : ∀ (t : Ty) (d : D) (b : Bool), isTy t d = some b → kitB (dName d) (tyName t) = some b := by
  intro t d b h
  have all : ∀ x ∈ ["NoneType", "bool", "int", "str", "tuple", "list"], ∀ y ∈ ["int", "bool", "str", "tuple", "list"], kitB x y = some (x == y || (x == "bool" && y == "int")) := by decide +kernel
  cases t <;> cases d <;> simp [isTy] at h <;> subst h <;> simp only [dName, tyName] <;> (rw [all _ (by simp) _ (by simp)]; rfl)
/-- isinstance(x, T) -/
theorem s_isi1 {a : Expr} {ma : M} {t : Ty} {p1 p2 : Pos} {x : Str} (hK : X.K = W.K) (hg : Gl X "isinstance") (hm : X.mg "isinstance" = none) (ht : Gl X x) (htm : X.mg x = none) (htv : bootBuiltins x = some (.type (tyName t))) (hn : x ≠ "__name__") (hd : (x == ("__debug__" : Str)) = false)
    (ha : PE X a (LE W ma)) (hs : starEach [a, .Name x p2] X.env = (false, eval a X.env) :: starEach [.Name x p2] X.env) :
    PE X (.Call (.Name "isinstance" p1) [a, .Name x p2] [] pos) (LE W fun ρ st Q => ma ρ st fun y st1 => match isTys [t] (rsv st1 y) with | some b => Q (.bl b) st1 | none => False) := by
  refine (pe_callB call_isi hg hm boot_isinstance (pa_cons ha (pa_cons (pe_bltn (v := .ty (tyName t)) ht htm htv rfl hn hd) pa_nil) hs) (he := hs)).mono fun σ H Q ⟨B, ρ, st, P, r, h, q⟩ => ?_
  refine ⟨B, ρ, st, _, r, h, fun d1 st1 v1 H1 h1 r1 o1 g1 => ?_⟩
  split at h1
  · rename_i b e
    simp only [isTys] at e
    split at e
    · rename_i c d e1 e2
      cases e2
      rw [Bool.or_false] at e; cases e
      exact ⟨_, _, _, _, b, rfl, .ty _, by rw [hK]; exact ty_of o1 r1 e1, kit_ty (kit_all t _ _ e1), q _ _ _ _ h1 (.bl _) o1 g1⟩
    · cases e
  · exact h1.elim
/-- isinstance(x, (T, U)) -/
theorem s_isi2 {a : Expr} {ma : M} {t u : Ty} {p1 p2 p3 p4 : Pos} {kk : Nat} {x y : Str} (hK : X.K = W.K) (hg : Gl X "isinstance") (hm : X.mg "isinstance" = none)
    (ht : Gl X x) (htm : X.mg x = none) (htv : bootBuiltins x = some (.type (tyName t))) (hn : x ≠ "__name__") (hd : (x == ("__debug__" : Str)) = false)
    (hu : Gl X y) (hum : X.mg y = none) (huv : bootBuiltins y = some (.type (tyName u))) (hn' : y ≠ "__name__") (hd' : (y == ("__debug__" : Str)) = false)
    (ha : PE X a (LE W ma)) (hs : starEach [a, .Tuple [.Name x p2, .Name y p3] kk p4] X.env = (false, eval a X.env) :: starEach [.Tuple [.Name x p2, .Name y p3] kk p4] X.env) :
    PE X (.Call (.Name "isinstance" p1) [a, .Tuple [.Name x p2, .Name y p3] kk p4] [] pos) (LE W fun ρ st Q => ma ρ st fun y st1 => match isTys [t, u] (rsv st1 y) with | some b => Q (.bl b) st1 | none => False) := by
  refine (pe_callB call_isiT hg hm boot_isinstance (pa_cons ha (pa_cons (pe_tup (pa_cons (pe_bltn (v := .ty (tyName t)) ht htm htv rfl hn hd) (pa_cons (pe_bltn (v := .ty (tyName u)) hu hum huv rfl hn' hd') pa_nil))) pa_nil) hs) (he := hs)).mono fun σ H Q ⟨B, ρ, st, P, r, h, q⟩ => ?_
  refine ⟨B, ρ, st, _, r, h, fun d1 st1 v1 H1 h1 r1 o1 g1 => ⟨by show 2 ≤ sizeLine; decide, fun p hp => ?_⟩⟩
  split at h1
  · rename_i b e
    have hsame := same_upd (u := .tup [.ty (tyName t), .ty (tyName u)]) hp
    simp only [isTys] at e
    split at e
    · rename_i c d e1 e2
      split at e2
      · rename_i c2 d2 e3 e4
        cases e4; rw [Bool.or_false] at e2; cases e2; cases e
        have q' := q _ _ _ _ h1 (.bl _) (o1.same hsame) (g1.trans (Grow.same hsame))
        have ty := ty_of (o1.same hsame) (r1.grow (Grow.same hsame)) e1
        refine ⟨_, p, _, _, _, _, rfl, upd_same, .cons (.ty _) (.cons (.ty _) .nil), by rw [hK]; exact ty, ?_, q'⟩
        refine kitAny_cons (kit_ty (kit_all t _ _ e1)) (fun z => ?_) (fun z => by rw [z]; rfl)
        subst z
        refine kitAny_cons (kit_ty (kit_all u _ _ e3)) (fun z => ?_) (fun z => by rw [z]; rfl)
        subst z
        exact kitAny_nil
      · cases e2
    · cases e
  · exact h1.elim

/-! ### what is walked -/
/-- a walk of the items ds, whatever grows -/
abbrev MI := Env → Store → (List D → (Store → Prop) → Store → Prop) → Prop
def Wk (W : Wd) (B : Addr → Prop) (J : L2.It) (st : Store) (H : Hp) (ds : List D) (C : Store → Prop) : Prop :=
  ∀ B' st' H', (∀ a, B' a → B a ∨ H a = none) → Gro B' st H st' H' → RH W B' st' H' → C st' → (∀ i, i < ds.length → J.go i H') ∧ J.stop ds.length H' ∧
    ∀ i d x H'', ds[i]? = some d → J.yld i H' x H'' → Rep W B' st' H'' x d ∧ Same H' H''
def LI (W : Wd) (m : MI) : TI := fun σ H Q => ∃ B ρ st P, R W B ρ st σ H ∧ m ρ st P ∧
  ∀ ds C st' J H', P ds C st' → Wk W B J st' H' ds C → RH W B st' H' → Grow st H st' H' → Q J H'
theorem _root_.L2.PI.mono {tg e : Expr} {t t' : TI} (h : PI X tg e t) (i : ∀ σ H Q, t' σ H Q → t σ H Q) : PI X tg e t' := ⟨fun pins s σ H Q I w => h.run pins s σ H Q I (i σ H Q w)⟩
theorem _root_.L2.PI.to {tg e : Expr} {m m' : MI} (h : PI X tg e (LI W m)) (i : m' = m) : PI X tg e (LI W m') := by rw [i]; exact h
theorem FrT.re {B B' : Addr → Prop} {K : PySem.W.Frag} {st : Store} {H : Hp} {a : Addr} {xs : List V} (l : ∀ a, B' a → B a ∨ H a = none) (h : FrT K B st H a xs) : FrT K B' st H a xs :=
  h.imp (fun ⟨z, o, d, w⟩ => ⟨z.re l w, o, d, w⟩) id
theorem wk_list {B : Addr → Prop} {st : Store} {H : Hp} {a : Addr} {vs : List V} {ds : List D} (s : Still B st a) (h : H a = some (.lst vs)) (l : RepL W B st H vs ds) : Wk W B (Itl W.K a) st H ds CT := by
  intro B' st' H' lb g o _
  obtain ⟨s', h'⟩ := (s.re lb h).grow g h
  have l' := (l.re lb).gro g
  refine ⟨fun i hi => ?_, ⟨vs, .of h', Nat.le_of_eq l.length⟩, fun i d x H'' hd y => ?_⟩
  · obtain ⟨v, e, _⟩ := l'.get i ds[i] (by simp [hi])
    exact ⟨vs, v, .of h', e⟩
  · obtain ⟨rfl, y⟩ := y
    obtain ⟨v, e, rv⟩ := l'.get i d hd
    rw [y vs (.of h')] at e
    cases e
    exact ⟨rv, Same.refl _⟩
theorem wk_loc {B : Addr → Prop} {st : Store} {H : Hp} {a : Addr} {ds : List D} : Wk W B (Itl W.K a) st H ds (CL a ds) := by
  intro B' st' H' lb g o e
  obtain ⟨vs, h', l'⟩ := o.ob _ _ e
  refine ⟨fun i hi => ?_, ⟨vs, .of h', Nat.le_of_eq l'.length⟩, fun i d x H'' hd y => ?_⟩
  · obtain ⟨v, e, _⟩ := l'.get i ds[i] (by simp [hi])
    exact ⟨vs, v, .of h', e⟩
  · obtain ⟨rfl, y⟩ := y
    obtain ⟨v, e, rv⟩ := l'.get i d hd
    rw [y vs (.of h')] at e
    cases e
    exact ⟨rv, Same.refl _⟩
theorem wk_tup {B : Addr → Prop} {st : Store} {H : Hp} {a : Addr} {vs : List V} {ds : List D} (f : FrT W.K B st H a vs) (l : RepL W B st H vs ds) : Wk W B (Itt W.K a) st H ds CT := by
  intro B' st' H' lb g o _
  have f' := (f.re lb).grow g
  have l' := (l.re lb).gro g
  refine ⟨fun i hi => ?_, ⟨vs, f'.sq, Nat.le_of_eq l.length⟩, fun i d x H'' hd y => ?_⟩
  · obtain ⟨v, e, _⟩ := l'.get i ds[i] (by simp [hi])
    exact ⟨vs, v, f'.sq, e⟩
  · obtain ⟨rfl, y⟩ := y
    obtain ⟨v, e, rv⟩ := l'.get i d hd
    rw [y vs f'.sq] at e
    cases e
    exact ⟨rv, Same.refl _⟩
theorem wk_range {B : Addr → Prop} {st : Store} {H : Hp} (lo : Int) (n : Nat) : Wk W B (Itr lo n) st H (rangeL lo n) CT := by
  intro B' st' H' lb g o _
  refine ⟨fun i hi => by simp only [rangeL, List.length_map, List.length_range] at hi; exact hi, by simp [rangeL, Itr], fun i d x H'' hd y => ?_⟩
  obtain ⟨rfl, y⟩ := y
  subst y
  simp only [rangeL, List.getElem?_map, Option.map_eq_some_iff] at hd
  obtain ⟨j, hj, rfl⟩ := hd
  rw [List.getElem?_range (by
    rcases Nat.lt_or_ge i n with z | z
    · exact z
    · rw [List.getElem?_eq_none (by simpa using z)] at hj; cases hj)] at hj
  cases hj
  exact ⟨.int _, Same.refl _⟩
theorem wk_str {B : Addr → Prop} {st : Store} {H : Hp} (z : Str) : Wk W B (Its z) st H (z.cps.toList.map fun c => .str ⟨#[c]⟩) CT := by
  intro B' st' H' lb g o _
  refine ⟨fun i hi => by simp only [List.length_map, Array.length_toList] at hi; exact hi, by simp [Its], fun i d x H'' hd y => ?_⟩
  obtain ⟨rfl, c, hc, rfl⟩ := y
  simp only [List.getElem?_map, Option.map_eq_some_iff] at hd
  obtain ⟨j, hj, rfl⟩ := hd
  rw [Array.getElem?_toList, hc] at hj
  cases hj
  exact ⟨.str _, Same.refl _⟩
/-- what iter(..) takes, by values -/
def iVal (te : TE) (r : V → Hp → (L2.It → Hp → Prop) → Prop) : TI := fun σ H R => te σ H fun v H1 => r v H1 R
/-- for x in e, e a tuple or a list -/
theorem pi_any {tg e : Expr} {te : TE} (he : PE X e te) : PI X tg e (iVal te fun v H R => (∃ a xs, v = .ref a ∧ SqL X.K H a xs ∧ R (Itl X.K a) H) ∨ (∃ a xs, v = .ref a ∧ SqT X.K H a xs ∧ R (Itt X.K a) H) ∨ ∃ x, v = .str x ∧ R (Its x) H) := by
  refine ⟨fun pins s σ H R I h => ?_⟩
  refine thn (he.run pins s σ H _ I h) fun v s1 ⟨y, H1, I1, r1, q⟩ => ?_
  rcases q with ⟨a, xs, e, hq, q⟩ | ⟨a, xs, e, hq, q⟩ | ⟨x, e, q⟩
  · subst e
    cases r1
    obtain ⟨its, rv, p, hz⟩ := I1.list hq
    refine wpAny_pyIter_list p.isList ?_
    refine ⟨s1.heap.objs.size, [s1.heap.objs.size], _, _, H1, rfl, I1.kept (t' := s1.toks) fun b o e => Heap.get?_push_of_some _ e, turn_list a _, ⟨_, Heap.get?_push_size _ rfl, rfl, rfl⟩, fun b hb => ?_, q⟩
    have e : b = s1.heap.objs.size := by simpa using hb
    subst e
    exact I1.fpOk (Nat.le_refl _) (I1.hok.fresh (Nat.le_refl _))
  · subst e
    cases r1
    obtain ⟨its, rv, p, hz⟩ := I1.tuple hq
    refine wpAny_pyIter_tuple (show s1.heap.IsTuple a its.toArray from p) ?_
    refine ⟨s1.heap.objs.size, [s1.heap.objs.size], _, _, H1, rfl, I1.kept (t' := s1.toks) fun b o e => Heap.get?_push_of_some _ e, turn_tuple a _, ⟨_, Heap.get?_push_size _ rfl, rfl, rfl⟩, fun b hb => ?_, q⟩
    have e : b = s1.heap.objs.size := by simpa using hb
    subst e
    exact I1.fpOk (Nat.le_refl _) (I1.hok.fresh (Nat.le_refl _))
  · subst e
    obtain ⟨t, rfl⟩ := r1
    cases ha : x.cps.all (· < 128)
    · exact wpAny_pyIter_wide ha (pi_one (tk := s1.toks) I1 _ (turn_str _ x t "str_iterator" (.inr rfl)) ⟨_, Heap.get?_push_size _ rfl, rfl, rfl⟩ q)
    · exact wpAny_pyIter_ascii ha (pi_one (tk := s1.toks) I1 _ (turn_str _ x t "str_ascii_iterator" (.inl rfl)) ⟨_, Heap.get?_push_size _ rfl, rfl, rfl⟩ q)
theorem i_of {tg e : Expr} {m : M} (hK : X.K = W.K) (he : PE X e (LE W m)) : PI X tg e (LI W fun ρ st Q => m ρ st fun d st1 => match items1 d with | some xs => Q xs CT st1 | none => False) := by
  refine (pi_any he).mono fun σ H Q ⟨B, ρ, st, P, r, h, q⟩ => ?_
  refine ⟨B, ρ, st, _, r, h, fun d1 st1 v1 H1 h1 r1 o1 g1 => ?_⟩
  split at h1
  · rename_i xs e
    cases r1 with
    | tup f l => cases e; exact .inr (.inl ⟨_, _, rfl, by rw [hK]; exact f.sq, by rw [hK]; exact q _ _ _ _ _ h1 (wk_tup f l) o1 g1⟩)
    | lst z f l => cases e; exact .inl ⟨_, _, rfl, .of f, by rw [hK]; exact q _ _ _ _ _ h1 (wk_list z f l) o1 g1⟩
    | str x => cases e; exact .inr (.inr ⟨_, rfl, q _ _ _ _ _ h1 (wk_str x) o1 g1⟩)
    | _ => cases e
  · exact h1.elim
theorem i_ofL {tg e : Expr} {m : M} (hK : X.K = W.K) (he : PE X e (LE W m)) : PI X tg e (LI W fun ρ st Q => m ρ st fun d st1 => ∃ a xs, d = .loc a ∧ st1 a = some (.lst xs) ∧ Q xs (CL a xs) st1) := by
  refine (pi_any he).mono fun σ H Q ⟨B, ρ, st, P, r, h, q⟩ => ?_
  refine ⟨B, ρ, st, _, r, h, fun d1 st1 v1 H1 ⟨a, xs, e1, e2, h1⟩ r1 o1 g1 => ?_⟩
  subst e1
  cases r1
  obtain ⟨vs, f, l⟩ := o1.ob _ _ e2
  exact .inl ⟨_, _, rfl, .of f, by rw [hK]; exact q _ _ _ _ _ h1 wk_loc o1 g1⟩
theorem i_range1 {tg a : Expr} {p : Pos} {m : M} (hg : Gl X "range") (hm : X.mg "range" = none) (ha : PE X a (LE W m)) (hs : starEach [a] X.env = [(false, eval a X.env)]) :
    PI X tg (.Call (.Name "range" p) [a] [] pos) (LI W fun ρ st Q => m ρ st fun d st1 => ∃ n, d = .int n ∧ (-(2 ^ 62) ≤ n ∧ n < 2 ^ 62) ∧ Q (rangeL 0 n.toNat) CT st1) := by
  refine (pi_range1 hg hm (pa_cons ha pa_nil hs) hs).mono fun σ H Q ⟨B, ρ, st, P, r, h, q⟩ => ?_
  refine ⟨B, ρ, st, _, r, h, fun d1 st1 v1 H1 ⟨n, e, hn, h1⟩ r1 o1 g1 => ?_⟩
  subst e; cases r1
  exact ⟨n, rfl, hn.1, hn.2, q _ _ _ _ _ h1 (wk_range 0 _) o1 g1⟩
theorem i_range2 {tg a b : Expr} {p : Pos} {m m' : M} (hg : Gl X "range") (hm : X.mg "range" = none) (ha : PE X a (LE W m)) (hb : PE X b (LE W m')) (hs : starEach [a, b] X.env = [(false, eval a X.env), (false, eval b X.env)]) (hs2 : starEach [b] X.env = [(false, eval b X.env)]) :
    PI X tg (.Call (.Name "range" p) [a, b] [] pos) (LI W fun ρ st Q => m ρ st fun d st1 => m' ρ st1 fun d' st2 => ∃ lo hi, d = .int lo ∧ d' = .int hi ∧ (-(2 ^ 62) ≤ lo ∧ lo < 2 ^ 62 ∧ -(2 ^ 62) ≤ hi ∧ hi < 2 ^ 62) ∧ Q (rangeL lo (hi - lo).toNat) CT st2) := by
  refine (pi_range2 hg hm (pa_cons ha (pa_cons hb pa_nil hs2) (by rw [hs, hs2])) hs hs2).mono fun σ H Q ⟨B, ρ, st, P, r, h, q⟩ => ?_
  refine ⟨B, ρ, st, _, r, h, fun d1 st1 v1 H1 h1 r1 o1 g1 => ⟨B, ρ, st1, _, r.step g1 o1, h1, fun d2 st2 v2 H2 ⟨lo, hi, e1, e2, hn, h2⟩ r2 o2 g2 => ?_⟩⟩
  subst e1 e2; cases r1; cases r2
  exact ⟨lo, hi, rfl, hn, q _ _ _ _ _ h2 (wk_range lo _) o2 (g1.trans g2)⟩
/-! zip -/
theorem zipD_get : ∀ {xs ys : List D} {i : Nat} {d : D}, (zipD xs ys)[i]? = some d → ∃ x y, xs[i]? = some x ∧ ys[i]? = some y ∧ d = .pr x y
  | [], _, i, d, h => by simp [zipD] at h
  | _ :: _, [], i, d, h => by simp [zipD] at h
  | x :: xs, y :: ys, 0, d, h => by simp [zipD] at h; exact ⟨x, y, rfl, rfl, h.symm⟩
  | x :: xs, y :: ys, i + 1, d, h => by
    obtain ⟨a, b, h1, h2, h3⟩ := zipD_get (xs := xs) (ys := ys) (i := i) (d := d) (by simpa [zipD] using h)
    exact ⟨a, b, by simpa using h1, by simpa using h2, h3⟩
theorem zipD_len : ∀ (xs ys : List D), (zipD xs ys).length = min xs.length ys.length
  | [], _ => by simp [zipD]
  | _ :: _, [] => by simp [zipD]
  | _ :: xs, _ :: ys => by simp [zipD, zipD_len xs ys]
theorem pair_rep {B : Addr → Prop} {st : Store} {H : Hp} {T : Addr} {x y : V} {dx dy : D} (o : RH W B st H) (n : H T = none) (rx : Rep W B st H x dx) (ry : Rep W B st H y dy) : Rep W B st (upd H T (.tup [x, y])) (.ref T) (.pr dx dy) ∧ Same H (upd H T (.tup [x, y])) :=
  ⟨.pr (o.free n) upd_same (rx.grow (Grow.same (same_upd n))) (ry.grow (Grow.same (same_upd n))), same_upd n⟩
theorem wk_zipL {B : Addr → Prop} {st : Store} {H : Hp} {a b : Addr} {vs us : List V} {ds es : List D} (s : Still B st a) (h : H a = some (.lst vs)) (l : RepL W B st H vs ds) (s2 : Still B st b) (h2 : H b = some (.lst us)) (l2 : RepL W B st H us es) : Wk W B (Itz W.K a b) st H (zipD ds es) CT := by
  intro B' st' H' lb g o _
  obtain ⟨s', h'⟩ := (s.re lb h).grow g h
  obtain ⟨s2', h2'⟩ := (s2.re lb h2).grow g h2
  have l' := (l.re lb).gro g
  have l2' := (l2.re lb).gro g
  refine ⟨fun i hi => ?_, ⟨vs, us, .of h', .of h2', ?_⟩, fun i d x H'' hd y => ?_⟩
  · rw [zipD_len] at hi
    obtain ⟨v, e, _⟩ := l'.get i (ds[i]'(by omega)) (by simp [show i < ds.length by omega])
    obtain ⟨u, e2, _⟩ := l2'.get i (es[i]'(by omega)) (by simp [show i < es.length by omega])
    exact ⟨vs, us, v, u, .of h', .of h2', e, e2⟩
  · rw [zipD_len, l.length, l2.length]
    omega
  · obtain ⟨T, u, w, rfl, n, rfl, y1, y2⟩ := y
    obtain ⟨dx, dy, e1, e2, rfl⟩ := zipD_get hd
    obtain ⟨v, f1, rv⟩ := l'.get i dx e1
    obtain ⟨v2, f2, rv2⟩ := l2'.get i dy e2
    rw [y1 vs (.of h')] at f1; rw [y2 us (.of h2')] at f2
    cases f1; cases f2
    exact pair_rep o n rv rv2
theorem wk_zipT {B : Addr → Prop} {st : Store} {H : Hp} {a b : Addr} {vs us : List V} {ds es : List D} (f : FrT W.K B st H a vs) (l : RepL W B st H vs ds) (f2 : FrT W.K B st H b us) (l2 : RepL W B st H us es) : Wk W B (ItzT W.K a b) st H (zipD ds es) CT := by
  intro B' st' H' lb g o _
  have h' := ((f.re lb).grow g).sq
  have h2' := ((f2.re lb).grow g).sq
  have l' := (l.re lb).gro g
  have l2' := (l2.re lb).gro g
  refine ⟨fun i hi => ?_, ⟨vs, us, h', h2', ?_⟩, fun i d x H'' hd y => ?_⟩
  · rw [zipD_len] at hi
    obtain ⟨v, e, _⟩ := l'.get i (ds[i]'(by omega)) (by simp [show i < ds.length by omega])
    obtain ⟨u, e2, _⟩ := l2'.get i (es[i]'(by omega)) (by simp [show i < es.length by omega])
    exact ⟨vs, us, v, u, h', h2', e, e2⟩
  · rw [zipD_len, l.length, l2.length]
    omega
  · obtain ⟨T, u, w, rfl, n, rfl, y1, y2⟩ := y
    obtain ⟨dx, dy, e1, e2, rfl⟩ := zipD_get hd
    obtain ⟨v, q1, rv⟩ := l'.get i dx e1
    obtain ⟨v2, q2, rv2⟩ := l2'.get i dy e2
    rw [y1 vs h'] at q1; rw [y2 us h2'] at q2
    cases q1; cases q2
    exact pair_rep o n rv rv2
theorem i_zip {a b : Expr} {p tpos : Pos} {elts : List Expr} {kk : Nat} {m m' : M} (hK : X.K = W.K) (hg : Gl X "zip") (hm : X.mg "zip" = none) (ha : PE X a (LE W m)) (hb : PE X b (LE W m')) (hs : starEach [a, b] X.env = (false, eval a X.env) :: starEach [b] X.env) (hs2 : starEach [b] X.env = [(false, eval b X.env)]) :
    PI X (.Tuple elts kk tpos) (.Call (.Name "zip" p) [a, b] [] pos) (LI W fun ρ st Q => m ρ st fun x st1 => m' ρ st1 fun y st2 => ((∃ xs ys, x = .lst xs ∧ y = .lst ys ∧ Q (zipD xs ys) CT st2) ∨ ∃ xs ys, x = .tup xs ∧ y = .tup ys ∧ Q (zipD xs ys) CT st2)) := by
  refine (pi_zipA hg hm (pa_cons ha (pa_cons hb pa_nil hs2) hs) hs (by rw [hs2]; rfl)).mono fun σ H Q ⟨B, ρ, st, P, r, h, q⟩ => ?_
  refine ⟨B, ρ, st, _, r, h, fun d1 st1 v1 H1 h1 r1 o1 g1 => ⟨B, ρ, st1, _, r.step g1 o1, h1, fun d2 st2 v2 H2 h2 r2 o2 g2 => ?_⟩⟩
  have r1 := r1.grow g2
  rcases h2 with ⟨xs, ys, rfl, rfl, h2⟩ | ⟨xs, ys, rfl, rfl, h2⟩
  · cases r1 with
    | lst z f l =>
      cases r2 with
      | lst z2 f2 l2 =>
        exact ⟨_, _, _, _, rfl, .inl ⟨.of f, .of f2, by rw [hK]; exact q _ _ _ _ _ h2 (wk_zipL z f l z2 f2 l2) o2 (g1.trans g2)⟩⟩
  · cases r1 with
    | tup f l =>
      cases r2 with
      | tup f2 l2 =>
        exact ⟨_, _, _, _, rfl, .inr ⟨by rw [hK]; exact f.sq, by rw [hK]; exact f2.sq, by rw [hK]; exact q _ _ _ _ _ h2 (wk_zipT f l f2 l2) o2 (g1.trans g2)⟩⟩
end
end G
/-! Targets; comprehensions. -/
namespace G
open PySem PySem.Spec PyProof.Rows L2
mutual
def Pt.slots : Pt → List Nat
  | .var i => [i]
  | .tup ps => ps.slots
def Pts.slots : Pts → List Nat
  | .nil => []
  | .cons p ps => p.slots ++ ps.slots
end
def LG (W : Wd) (p : Pt) : TG := fun v σ H Q => ∃ B ρ st d P, R W B ρ st σ H ∧ Rep W B st H v d ∧ asg p d ρ P ∧
  ∀ ρ' σ', P ρ' → R W B ρ' st σ' H → (∀ vs : List Nat, (∀ i ∈ p.slots, i ∈ vs) → wipe σ' vs = wipe σ vs) → Q σ' H
def LGs (W : Wd) (ps : Pts) : TGs := fun vs σ H Q => ∃ B ρ st ds P, R W B ρ st σ H ∧ RepL W B st H vs ds ∧ asgs ps ds ρ P ∧
  ∀ ρ' σ', P ρ' → R W B ρ' st σ' H → (∀ vs : List Nat, (∀ i ∈ ps.slots, i ∈ vs) → wipe σ' vs = wipe σ vs) → Q σ' H
theorem _root_.L2.PG.mono {X : Cx} {tg : Expr} {t t' : TG} (h : PG X tg t) (i : ∀ v σ H Q, t' v σ H Q → t v σ H Q) : PG X tg t' := ⟨fun pins s σ H v u Q I r w => h.run pins s σ H v u Q I r (i v σ H Q w)⟩
theorem _root_.L2.PGs.mono {X : Cx} {tg : List Expr} {t t' : TGs} (h : PGs X tg t) (i : ∀ v σ H Q, t' v σ H Q → t v σ H Q) : PGs X tg t' := ⟨fun pins s σ H v u Q I r w => h.run pins s σ H v u Q I r (i v σ H Q w)⟩
theorem wipe_get (σ : L2.St) : ∀ (vs : List Nat) (i : Nat), i ∈ vs → i < σ.length → (wipe σ vs)[i]? = some none
  | [], i, h, _ => by simp at h
  | v :: vs, i, h, hl => by
    unfold wipe
    by_cases e : v = i
    · subst e
      rw [List.getElem?_set_self (by rw [wipe_length]; exact hl)]
    · rw [List.getElem?_set_ne e]
      exact wipe_get σ vs i ((List.mem_cons.mp h).resolve_left fun z => e z.symm) hl
theorem wipe_out (σ : L2.St) : ∀ (vs : List Nat) (i : Nat), i ∉ vs → (wipe σ vs)[i]? = σ[i]?
  | [], i, h => rfl
  | v :: vs, i, h => by
    unfold wipe
    rw [List.getElem?_set_ne fun e => h (by rw [e]; exact List.mem_cons_self)]
    exact wipe_out σ vs i fun z => h (List.mem_cons_of_mem _ z)
theorem wipe_set {σ : L2.St} {i : Nat} {x : Option V} {vs : List Nat} (h : i ∈ vs) : wipe (σ.set i x) vs = wipe σ vs := by
  apply List.ext_getElem?
  intro j
  by_cases hj : j ∈ vs
  · by_cases hl : j < σ.length
    · rw [wipe_get _ vs j hj (by simpa using hl), wipe_get _ vs j hj hl]
    · rw [List.getElem?_eq_none (by rw [wipe_length]; simpa using hl), List.getElem?_eq_none (by rw [wipe_length]; simpa using hl)]
  · rw [wipe_out _ vs j hj, wipe_out _ vs j hj, List.getElem?_set_ne fun e => hj (by rw [← e]; exact h)]
section
variable {X : Cx} {W : Wd} {pos : Pos}
theorem g_var {i : Nat} {x : Str} (hN : X.N.Nodup) (hi : X.N[i]? = some x) (hx : Loc X.env.scope x) (hf : X.fn x = true ∨ X.env.scope.names.lookup x = some .local) : PG X (.Name x pos) (LG W (.var i)) := by
  refine (pg_name hN hi hx hf).mono fun v σ H Q ⟨B, ρ, st, d, P, r, rv, h, q⟩ => ?_
  exact q _ _ h (r.set i rv) fun vs hv => wipe_set (hv i (by simp [Pt.slots]))
theorem g_nil : PGs X [] (LGs W .nil) := by
  refine pgs_nil.mono fun vs σ H Q ⟨B, ρ, st, ds, P, r, rv, h, q⟩ => ?_
  cases rv with
  | nil => exact ⟨rfl, q ρ σ h r fun _ _ => rfl⟩
  | cons _ _ => exact h.elim
theorem g_cons {e : Expr} {es : List Expr} {p : Pt} {ps : Pts} (h1 : PG X e (LG W p)) (h2 : PGs X es (LGs W ps)) (hs : (assignEach (e :: es) X.env).map (·.2) = assign e X.env :: (assignEach es X.env).map (·.2)) : PGs X (e :: es) (LGs W (.cons p ps)) := by
  refine (pgs_cons h1 h2 hs).mono fun vs σ H Q ⟨B, ρ, st, ds, P, r, rv, h, q⟩ => ?_
  cases rv with
  | nil => exact h.elim
  | cons r1 rs =>
    refine ⟨_, _, rfl, B, ρ, st, _, _, r, r1, h, fun ρ1 σ1 hp r' hw => ?_⟩
    refine ⟨B, ρ1, st, _, P, r', rs, hp, fun ρ2 σ2 hp2 r2 hw2 => q _ _ hp2 r2 fun vs hv => ?_⟩
    rw [hw2 vs fun i hi => hv i (by simp [Pts.slots, hi]), hw vs fun i hi => hv i (by simp [Pts.slots, hi])]
theorem g_tup {es : List Expr} {k : Nat} {ps : Pts} (hK : X.K = W.K) (hc : X.calm = true) (h : PGs X es (LGs W ps)) (hl : ∀ ds ρ P, asgs ps ds ρ P → ds.length = es.length)
    (hn : (assignEach es X.env).length = es.length) (hst : (assignEach es X.env).findIdx? (·.1) = none) : PG X (.Tuple es k pos) (LG W (.tup ps)) := by
  refine (pg_tup hc h hn hst).mono fun v σ H Q ⟨B, ρ, st, d, P, r, rv, h, q⟩ => ?_
  unfold asg at h
  split at h
  · cases rv with
    | tup f l =>
      refine ⟨_, _, rfl, by rw [hK]; exact f.sq, by rw [l.length]; exact hl _ _ _ h, B, ρ, st, _, P, r, l, h, fun ρ' σ' hp r' hw => q _ _ hp r' fun vs hv => hw vs fun i hi => hv i (by simpa [Pt.slots] using hi)⟩
  · cases rv with
    | pr s f a b =>
      refine ⟨_, _, rfl, .inl (.inl f), hl _ _ _ h, B, ρ, st, _, P, r, .cons a (.cons b .nil), h, fun ρ' σ' hp r' hw => q _ _ hp r' fun vs hv => hw vs fun i hi => hv i (by simpa [Pt.slots] using hi)⟩
  · exact h.elim
mutual
theorem asg_ex : ∀ (p : Pt) (d : D) (ρ : Env) (P : Env → Prop), asg p d ρ P → ∃ ρ', P ρ'
  | .var i, d, ρ, P, h => ⟨_, h⟩
  | .tup ps, d, ρ, P, h => by
    unfold asg at h
    split at h
    · exact asgs_ex ps _ ρ P h
    · exact asgs_ex ps _ ρ P h
    · exact h.elim
theorem asgs_ex : ∀ (p : Pts) (d : List D) (ρ : Env) (P : Env → Prop), asgs p d ρ P → ∃ ρ', P ρ'
  | .nil, [], ρ, P, h => ⟨_, h⟩
  | .nil, _ :: _, _, _, h => h.elim
  | .cons _ _, [], _, _, h => h.elim
  | .cons p ps, d :: ds, ρ, P, h => by
    obtain ⟨ρ1, h1⟩ := asg_ex p d ρ _ h
    exact asgs_ex ps ds ρ1 P h1
end
def Pts.len : Pts → Nat
  | .nil => 0
  | .cons _ ps => ps.len + 1
theorem asgs_len : ∀ (ps : Pts) (ds : List D) (ρ : Env) (P : Env → Prop), asgs ps ds ρ P → ds.length = ps.len
  | .nil, [], _, _, _ => rfl
  | .nil, _ :: _, _, _, h => h.elim
  | .cons _ _, [], _, _, h => h.elim
  | .cons p ps, d :: ds, ρ, P, h => by
    obtain ⟨ρ1, h1⟩ := asg_ex p d ρ _ h
    show ds.length + 1 = ps.len + 1
    rw [asgs_len ps ds ρ1 P h1]

/-! ### comprehensions -/
theorem _root_.L2.PTs.mono {ifs : List Expr} {t t' : TT} (h : PTs X ifs t) (i : ∀ σ H Q, t' σ H Q → t σ H Q) : PTs X ifs t' := ⟨fun pins s σ H Q I w => h.run pins s σ H Q I (i σ H Q w)⟩
theorem _root_.L2.PTs.to {ifs : List Expr} {m m' : M} (h : PTs X ifs (LT W m)) (i : m' = m) : PTs X ifs (LT W m') := by rw [i]; exact h
theorem ts_nil : PTs X [] (LT W fun _ st Q => Q (.bl true) st) := by
  refine pts_nil.mono fun σ H Q ⟨B, ρ, st, P, r, k, q⟩ => ?_
  obtain ⟨b, e, z⟩ := q _ _ _ k r.ob (Grow.refl _ _)
  cases e; exact z
theorem ts_one {c : Expr} {m : M} (h : PT X c (LT W m)) : PTs X [c] (LT W m) := pts_one h
/-- one turn of a comprehension -/
def turn (p : Pt) (own : List Nat) (mt me : M) (ρ : Env) : D → Store → (Option D → Store → Prop) → Prop := fun d st k =>
  asg p d (wipeE ρ own) fun ρ1 => mt ρ1 st fun t st1 => ∃ b, t = .bl b ∧ (if b = true then me ρ1 st1 fun x st2 => k (some x) st2 else k none st1)
theorem comp_lift {own : List Nat} {mi : MI} {mt me : M} {p : Pt} (hp : ∀ i ∈ p.slots, i ∈ own) : ∀ (σ : L2.St) (H : Hp) (Q : VK),
    LP W (fun ρ st Q => mi ρ st fun ds C st1 => turns C (turn p own mt me ρ) ds st1 [] fun xs st2 => Q (.lst xs) st2) σ H Q → tLc (LI W mi) (LG W p) (LT W mt) (LE W me) own σ H Q := by
  intro σ H Q ⟨B, ρ, st, P, r, h, q⟩
  refine ⟨B, ρ, st, _, r, h, fun ds C st1 J H1 h1 wk o1 g1 => ?_⟩
  intro D hD
  have nBD : ¬ B D := (o1.free hD).2
  have lB : ∀ a, Hide B D a → B a ∨ H1 a = none := fun a z => z.elim .inl fun e => .inr (by rw [e]; exact hD)
  have oH : RH W (Hide B D) st1 (upd H1 D (.lst [])) := o1.hideNew hD
  have r1 : R W (Hide B D) ρ st1 σ (upd H1 D (.lst [])) := ⟨r.len, fun i d e => by
    obtain ⟨v, e1, e2⟩ := r.var i d e
    exact ⟨v, e1, ((e2.grow g1).re lB).grow (Grow.same (same_upd hD))⟩, oH⟩
  have gD : Gro (Hide B D) st1 H1 st1 (upd H1 D (.lst [])) := (Grow.same (same_upd hD)).b
  refine ⟨fun i m H2 => i ≤ ds.length ∧ m = ds.length - i ∧ ∃ (st2 : Store) (acc : List G.D) (vs : List V), H2 D = some (.lst vs) ∧ RepL W (Hide B D) st2 H2 vs acc ∧ RH W (Hide B D) st2 H2 ∧
      (∀ a o, st1 a = none → a ≠ D → H1 a = some o → nt o → st2 a = none ∧ H2 a = some o) ∧ turns C (turn p own mt me ρ) (ds.drop i) st2 acc fun xs st2 => P (.lst xs) st2, ⟨ds.length, Nat.zero_le _, rfl, st1, [], [], upd_same, .nil, oH, fun a o e1 e2 e3 _ => ⟨e1, by rw [upd_ne e2]; exact e3⟩, h1⟩, ?_⟩
  rintro i m H2 ⟨hi, rfl, st2, acc, vs, hd, l, o2, g2, hT⟩
  have gH : Gro (Hide B D) st1 H1 st2 H2 := fun a o e1 e2 e3 n => g2 a o e1 (fun z => e2 (.inr z)) e3 n
  have gH' : Gro (Hide B D) st1 (upd H1 D (.lst [])) st2 H2 := fun a o e1 e2 e3 n => by
    have ne : a ≠ D := fun z => e2 (.inr z)
    rw [upd_ne ne] at e3
    exact g2 a o e1 ne e3 n
  have hC : C st2 := by
    cases z : ds.drop i with
    | nil => rw [z] at hT; exact hT.1
    | cons _ _ => rw [z] at hT; exact hT.1
  obtain ⟨wg, ws, wy⟩ := wk (Hide B D) st2 H2 lB gH o2 hC
  have sD : st2 D = none := (o2.hid D (.inr rfl)).1
  by_cases hlt : i < ds.length
  · refine .inr ⟨wg i hlt, fun H' => ∃ (st2 : Store) (acc : List G.D) (vs : List V), H' D = some (.lst vs) ∧ RepL W (Hide B D) st2 H' vs acc ∧ RH W (Hide B D) st2 H' ∧
      (∀ a o, st1 a = none → a ≠ D → H1 a = some o → nt o → st2 a = none ∧ H' a = some o) ∧ turns C (turn p own mt me ρ) (ds.drop (i + 1)) st2 acc fun xs st2 => P (.lst xs) st2,
      fun H' z => ⟨ds.length - (i + 1), by omega, hlt, rfl, z⟩, fun x H3 hy => ?_⟩
    have hdi : ds[i]? = some ds[i] := List.getElem?_eq_getElem hlt
    obtain ⟨rx, sm⟩ := wy i ds[i] x H3 hdi hy
    have hdr : ds.drop i = ds[i] :: ds.drop (i + 1) := List.drop_eq_getElem_cons hlt
    rw [hdr] at hT
    replace hT := hT.2
    have o3 := o2.same sm
    have r3 : R W (Hide B D) (wipeE ρ own) st2 (wipe σ own) H3 := ((r1.gro gH' o2).same sm).wipe _
    refine ⟨Hide B D, _, st2, ds[i], _, r3, rx, hT, fun ρ1 σ1 hm r4 hw => ⟨?_, ?_⟩⟩
    · have z := hw own hp
      rw [z]
      apply List.ext_getElem?
      intro j
      by_cases hj : j ∈ own
      · by_cases hl : j < σ.length
        · rw [wipe_get _ _ j hj (by rw [wipe_length]; exact hl), wipe_get _ _ j hj hl]
        · rw [List.getElem?_eq_none (by rw [wipe_length, wipe_length]; simpa using hl), List.getElem?_eq_none (by rw [wipe_length]; simpa using hl)]
      · rw [wipe_out _ _ j hj]
    · refine ⟨Hide B D, ρ1, st2, _, r4, hm, fun t st3 H4 ⟨b, e, hb⟩ o4 g4 => ⟨b, e, ?_⟩⟩
      have g24 : ∀ a o, st1 a = none → a ≠ D → H1 a = some o → nt o → st3 a = none ∧ H4 a = some o := fun a o e1 e2 e3 n => by
        obtain ⟨z1, z2⟩ := g2 a o e1 e2 e3 n
        exact g4 a o z1 (sm _ _ z2) n
      obtain ⟨s4, d4⟩ := g4 D _ sD (sm _ _ hd) trivial
      have l4 : RepL W (Hide B D) st3 H4 vs acc := (l.grow (Grow.same sm)).grow g4
      cases b with
      | true =>
        simp only [if_true] at hb ⊢
        refine ⟨Hide B D, ρ1, st3, _, r4.step g4 o4, hb, fun y st5 v H5 hk r5 o5 g5 => ?_⟩
        obtain ⟨s5, d5⟩ := g5 D _ s4 d4 trivial
        obtain ⟨hz, hk⟩ := hk
        have l5 := l4.grow g5
        refine ⟨vs, d5, by rw [l5.length]; exact hz, st5, acc ++ [y], vs ++ [v], upd_same, (l5.app (.cons r5 .nil)).gro (Gro.hidden (.inr rfl)), o5.bump (.inr rfl), fun a o e1 e2 e3 n => ?_, hk⟩
        obtain ⟨z1, z2⟩ := g24 a o e1 e2 e3 n
        obtain ⟨z3, z4⟩ := g5 a o z1 z2 n
        exact ⟨z3, by rw [upd_ne e2]; exact z4⟩
      | false =>
        simp only [Bool.false_eq_true, if_false] at hb ⊢
        exact ⟨st3, acc, vs, d4, l4, o4, g24, hb⟩
  · have e : i = ds.length := by omega
    subst e
    rw [List.drop_length] at hT
    replace hT := hT.2
    refine .inl ⟨ws, ?_⟩
    have z := q (.lst acc) st2 (cut H2 D) D (.lst vs) hT (if_pos rfl) ⟨vs, rfl, l.cut1⟩ (o2.unhide nBD) (fun a o e1 e2 n => ?_)
    · rw [upd_cut hd] at z
      exact z
    · obtain ⟨z1, z2⟩ := g1 a o e1 e2 n
      have ne : a ≠ D := fun q => by rw [q, hD] at z2; cases z2
      obtain ⟨z3, z4⟩ := g2 a o z1 ne z2 n
      exact ⟨z3, by rw [cut_ne ne]; exact z4⟩
theorem p_comp {elt tg iter : Expr} {ifs : List Expr} {scope : Scope} {own : List (Str × Nat)} {mi : MI} {mt me : M} {p : Pt} (hc : X.calm = true) (hN : X.N.Nodup) (hi : PI X tg iter (LI W mi)) (ok : BlkOk X.N X.env.scope scope own)
    (hg : ∀ (s : Shared) (H : Hp) (C : Addr) (cl : List (Str × Addr)) (fp : List Addr), PG (X.blk s H scope (compEnvC scope cl C X.env) fp) tg (LG W p)) (hp : ∀ i ∈ p.slots, i ∈ own.map (·.2))
    (ht : ∀ (s : Shared) (H : Hp) (C : Addr) (cl : List (Str × Addr)) (fp : List Addr), PTs (X.blk s H scope (compEnvC scope cl C X.env) fp) ifs (LT W mt))
    (he : ∀ (s : Shared) (H : Hp) (C : Addr) (cl : List (Str × Addr)) (fp : List Addr), PE (X.blk s H scope (compEnvC scope cl C X.env) fp) elt (LE W me)) (hs : ∀ x, foldedSetIterable iter X.env x = pure x) :
    PE X (.ListComp elt [⟨tg, iter, ifs, 0⟩] scope pos) (LP W fun ρ st Q => mi ρ st fun ds C st1 => turns C (turn p (own.map (·.2)) mt me ρ) ds st1 [] fun xs st2 => Q (.lst xs) st2) :=
  (pe_lc hc hN hi ok hg ht he hs).mono (comp_lift hp)
end
end G
/-! Methods of built-ins, attributes, calls of defs. -/
namespace G
open PySem PySem.Spec PyProof.Rows L2
theorem Store.set_same {st : Store} {a : Addr} {o : Ob} : st.set a o a = some o := by unfold Store.set; rw [if_pos rfl]
section
variable {X : Cx} {W : Wd} {pos apos : Pos}
theorem loc_lst {B : Addr → Prop} {st : Store} {H : Hp} {v : V} {a : Addr} {xs : List D} (o : RH W B st H) (r : Rep W B st H v (.loc a)) (e : st a = some (.lst xs)) : v = .ref a ∧ ∃ vs, H a = some (.lst vs) ∧ RepL W B st H vs xs := by
  cases r
  exact ⟨rfl, o.ob _ _ e⟩
/-- a list written anew -/
theorem setL {B : Addr → Prop} {st : Store} {H : Hp} {a : Addr} {xs ys : List D} {us : List V} (o : RH W B st H) (e : st a = some (.lst xs)) (l : RepL W B st H us ys) : RH W B (st.set a (.lst ys)) (upd H a (.lst us)) ∧ Grow st H (st.set a (.lst ys)) (upd H a (.lst us)) :=
  o.write e fun g => ⟨us, upd_same, l.grow g⟩
theorem few1 {e : Expr} {X : Cx} {cpos : Pos} (hs : starEach [e] X.env = [(false, eval e X.env)]) : ((backTo cpos (starEach [e] X.env)).all (fun x => !x.1) && (backToKw cpos (keywordEach [] X.env)).all (fun x => x.1.isSome)
      && decide ([e].length + ([] : List Keyword).length + (if ([] : List Keyword).isEmpty then 0 else 1) < 30)) = true := by
  rw [hs]; rfl
theorem few2 {e e2 : Expr} {X : Cx} {cpos : Pos} (hs : starEach [e, e2] X.env = [(false, eval e X.env), (false, eval e2 X.env)]) : ((backTo cpos (starEach [e, e2] X.env)).all (fun x => !x.1) && (backToKw cpos (keywordEach [] X.env)).all (fun x => x.1.isSome)
      && decide ([e, e2].length + ([] : List Keyword).length + (if ([] : List Keyword).isEmpty then 0 else 1) < 30)) = true := by
  rw [hs]; rfl
theorem s_app {o e : Expr} {mo me : M} (ho : PE X o (LE W mo)) (he : PE X e (LE W me)) (hb : ∀ w, attributeBase o "append" X.env w = w) (hl : (apos.endLine == pos.line) = true) (hs : starEach [e] X.env = [(false, eval e X.env)]) :
    PE X (.Call (.Attribute o "append" apos) [e] [] pos) (LE W fun ρ st Q => mo ρ st fun x st1 => ∃ a zs, x = .loc a ∧ st1 a = some (.lst zs) ∧ me ρ st1 fun d st2 => ∃ xs, st2 a = some (.lst xs) ∧ xs.length < sizeLine ∧ Q .non (st2.set a (.lst (xs ++ [d])))) := by
  refine (pe_bm PySem.F.plainAttrs_list PySem.F.slot_list_append PySem.F.type_list_append mt_append ho (pa_cons he pa_nil hs) (hb _) (few1 hs) hl hs rfl).mono fun σ H Q ⟨B, ρ, st, P, r, h, q⟩ => ?_
  refine ⟨B, ρ, st, _, r, h, fun d1 st1 v1 H1 ⟨a, zs, e1, e2, h1⟩ r1 o1 g1 => ?_⟩
  subst e1
  obtain ⟨rfl, vs, w, l⟩ := loc_lst o1 r1 e2
  refine ⟨.inl ⟨rfl, _, .of w⟩, B, ρ, st1, _, r.step g1 o1, h1, fun d2 st2 v2 H2 ⟨xs, e3, hz, h2⟩ r2 o2 g2 => ?_⟩
  obtain ⟨us, w2, l2⟩ := o2.ob _ _ e3
  obtain ⟨o3, g3⟩ := setL o2 e3 (l2.app (.cons r2 .nil))
  exact ⟨a, us, v2, rfl, rfl, w2, by rw [l2.length]; exact hz, q _ _ _ _ h2 .non o3 (g1.trans (g2.trans g3))⟩
theorem RepL.dropLast {B : Addr → Prop} {st : Store} {H : Hp} : ∀ {vs : List V} {ds : List D}, RepL W B st H vs ds → RepL W B st H vs.dropLast ds.dropLast
  | _, _, .nil => .nil
  | _, _, .cons _ .nil => .nil
  | _, _, .cons r (.cons q t) => .cons r (RepL.dropLast (.cons q t))
theorem RepL.eraseIdx {B : Addr → Prop} {st : Store} {H : Hp} : ∀ {vs : List V} {ds : List D} (i : Nat), RepL W B st H vs ds → RepL W B st H (vs.eraseIdx i) (ds.eraseIdx i)
  | _, _, _, .nil => .nil
  | _, _, 0, .cons _ t => t
  | _, _, i + 1, .cons r t => .cons r (RepL.eraseIdx i t)
theorem s_pop {o : Expr} {mo : M} (ho : PE X o (LE W mo)) (hb : ∀ w, attributeBase o "pop" X.env w = w) (hl : (apos.endLine == pos.line) = true) :
    PE X (.Call (.Attribute o "pop" apos) [] [] pos) (LE W fun ρ st Q => mo ρ st fun x st1 => ∃ a xs d, x = .loc a ∧ st1 a = some (.lst xs) ∧ xs.getLast? = some d ∧ Q d (st1.set a (.lst xs.dropLast))) := by
  refine (pe_bm0 PySem.F.plainAttrs_list PySem.F.slot_list_pop PySem.F.type_list_pop mt_pop ho (hb _) hl).mono fun σ H Q ⟨B, ρ, st, P, r, h, q⟩ => ?_
  refine ⟨B, ρ, st, _, r, h, fun d1 st1 v1 H1 ⟨a, xs, d, e1, e2, e3, h1⟩ r1 o1 g1 => ?_⟩
  subst e1
  obtain ⟨rfl, vs, w, l⟩ := loc_lst o1 r1 e2
  obtain ⟨o3, g3⟩ := setL o1 e2 l.dropLast
  rw [List.getLast?_eq_getElem?] at e3
  obtain ⟨v, e4, rv⟩ := l.get _ _ e3
  exact ⟨.inl ⟨rfl, _, .of w⟩, a, vs, v, rfl, rfl, w, by rw [l.length]; exact e4, q _ _ _ _ h1 (rv.grow g3) o3 (g1.trans g3)⟩
theorem seqIx {j n : Nat} (h : j < n) : seqIndex? (j : Int) n = some j := (ixN_seq (by unfold ixN; rw [if_pos (by omega), if_pos (by omega)]; simp)).1
theorem s_popAt {o e : Expr} {mo me : M} (ho : PE X o (LE W mo)) (he : PE X e (LE W me)) (hb : ∀ w, attributeBase o "pop" X.env w = w) (hl : (apos.endLine == pos.line) = true) (hs : starEach [e] X.env = [(false, eval e X.env)]) :
    PE X (.Call (.Attribute o "pop" apos) [e] [] pos) (LE W fun ρ st Q => mo ρ st fun x st1 => ∃ a zs, x = .loc a ∧ st1 a = some (.lst zs) ∧ me ρ st1 fun y st2 => ∃ (xs : List D) (j : Nat) (d : D), st2 a = some (.lst xs) ∧ y = .int j ∧ j < 1000000 ∧ xs[j]? = some d ∧ Q d (st2.set a (.lst (xs.eraseIdx j)))) := by
  refine (pe_bm PySem.F.plainAttrs_list PySem.F.slot_list_pop PySem.F.type_list_pop mt_popAt ho (pa_cons he pa_nil hs) (hb _) (few1 hs) hl hs rfl).mono fun σ H Q ⟨B, ρ, st, P, r, h, q⟩ => ?_
  refine ⟨B, ρ, st, _, r, h, fun d1 st1 v1 H1 ⟨a, zs, e1, e2, h1⟩ r1 o1 g1 => ?_⟩
  subst e1
  obtain ⟨rfl, vs, w, l⟩ := loc_lst o1 r1 e2
  refine ⟨.inl ⟨rfl, _, .of w⟩, B, ρ, st1, _, r.step g1 o1, h1, fun d2 st2 v2 H2 ⟨xs, j, d, e3, e4, hj, e5, h2⟩ r2 o2 g2 => ?_⟩
  subst e4
  cases r2
  obtain ⟨us, w2, l2⟩ := o2.ob _ _ e3
  obtain ⟨o3, g3⟩ := setL o2 e3 (l2.eraseIdx j)
  obtain ⟨v, e6, rv⟩ := l2.get _ _ e5
  have hlt : j < us.length := (List.getElem?_eq_some_iff.mp e6).1
  exact ⟨a, us, j, j, v, rfl, rfl, w2, by omega, by omega, seqIx hlt, e6, q _ _ _ _ h2 (rv.grow g3) o3 (g1.trans (g2.trans g3))⟩
theorem s_ins {o i e : Expr} {mo mi me : M} (ho : PE X o (LE W mo)) (hi : PE X i (LE W mi)) (he : PE X e (LE W me)) (hb : ∀ w, attributeBase o "insert" X.env w = w) (hl : (apos.endLine == pos.line) = true) (hs : starEach [i, e] X.env = [(false, eval i X.env), (false, eval e X.env)]) (hs2 : starEach [e] X.env = [(false, eval e X.env)]) :
    PE X (.Call (.Attribute o "insert" apos) [i, e] [] pos) (LE W fun ρ st Q => mo ρ st fun x st1 => ∃ a zs, x = .loc a ∧ st1 a = some (.lst zs) ∧ mi ρ st1 fun y st2 => me ρ st2 fun d st3 => ∃ (xs : List D) (j : Nat), st3 a = some (.lst xs) ∧ y = .int j ∧ j < 1000000 ∧ xs.length < sizeLine ∧
      Q .non (st3.set a (.lst (xs.take j ++ [d] ++ xs.drop j)))) := by
  refine (pe_bm PySem.F.plainAttrs_list PySem.F.slot_list_insert PySem.F.type_list_insert mt_insert ho (pa_cons hi (pa_cons he pa_nil hs2) (by rw [hs, hs2])) (hb _) (few2 hs) hl (by rw [hs, hs2]) (by rw [hs2]; rfl)).mono fun σ H Q ⟨B, ρ, st, P, r, h, q⟩ => ?_
  refine ⟨B, ρ, st, _, r, h, fun d1 st1 v1 H1 ⟨a, zs, e1, e2, h1⟩ r1 o1 g1 => ?_⟩
  subst e1
  obtain ⟨rfl, vs, w, l⟩ := loc_lst o1 r1 e2
  refine ⟨.inl ⟨rfl, _, .of w⟩, B, ρ, st1, _, r.step g1 o1, h1, fun d2 st2 v2 H2 h2 r2 o2 g2 => ⟨B, ρ, st2, _, r.step (g1.trans g2) o2, h2, fun d3 st3 v3 H3 ⟨xs, j, e3, e4, hj, hz, h3⟩ r3 o3 g3 => ?_⟩⟩
  subst e4
  cases r2
  obtain ⟨us, w2, l2⟩ := o3.ob _ _ e3
  obtain ⟨o4, g4⟩ := setL o3 e3 (((l2.take j).app (.cons r3 .nil)).app (l2.drop j))
  exact ⟨a, us, j, v3, rfl, rfl, w2, by rw [l2.length]; exact hz, by omega, by omega, q _ _ _ _ h3 .non o4 (g1.trans (g2.trans (g3.trans g4)))⟩
theorem s_upper {o : Expr} {mo : M} (ho : PE X o (LE W mo)) (hb : ∀ w, attributeBase o "upper" X.env w = w) (hl : (apos.endLine == pos.line) = true) :
    PE X (.Call (.Attribute o "upper" apos) [] [] pos) (LE W fun ρ st Q => mo ρ st fun x st1 => ∃ z, x = .str z ∧ z.length ≤ 1000 ∧ Q (.str (Txt.upper z)) st1) := by
  refine (pe_upper ho (hb _) hl).mono fun σ H Q ⟨B, ρ, st, P, r, h, q⟩ => ?_
  refine ⟨B, ρ, st, _, r, h, fun d1 st1 v1 H1 ⟨z, e1, e2, h1⟩ r1 o1 g1 => ?_⟩
  subst e1; cases r1
  exact ⟨⟨_, rfl⟩, z, rfl, rfl, by omega, q _ _ _ _ h1 (.str _) o1 g1⟩
theorem vals_str {B : Addr → Prop} {st : Store} {H : Hp} : ∀ {vs : List V} {ds : List D} {bs : List Str}, RepL W B st H vs ds → strsD ds = some bs → vs = bs.map V.str
  | _, _, _, .nil, e => by cases e; rfl
  | _, _, _, .cons r t, e => by
    cases r <;> simp [strsD] at e
    obtain ⟨bs', e1, rfl⟩ := e
    rw [vals_str t e1]; rfl
theorem s_join {o e : Expr} {mo me : M} (ho : PE X o (LE W mo)) (he : PE X e (LE W me)) (hb : ∀ w, attributeBase o "join" X.env w = w) (hl : (apos.endLine == pos.line) = true) (hs : starEach [e] X.env = [(false, eval e X.env)]) :
    PE X (.Call (.Attribute o "join" apos) [e] [] pos) (LE W fun ρ st Q => mo ρ st fun x st1 => ∃ z, x = .str z ∧ me ρ st1 fun y st2 => ∃ xs ys, lstOf st2 y = some xs ∧ strsD xs = some ys ∧ (ys.map (·.length)).sum + ys.length * z.length ≤ 1000000 ∧ Q (.str (Txt.join z ys)) st2) := by
  refine (pe_join ho he hs (hb _) hl).mono fun σ H Q ⟨B, ρ, st, P, r, h, q⟩ => ?_
  refine ⟨B, ρ, st, _, r, h, fun d1 st1 v1 H1 ⟨z, e1, h1⟩ r1 o1 g1 => ?_⟩
  subst e1; cases r1
  refine ⟨⟨_, rfl⟩, B, ρ, st1, _, r.step g1 o1, h1, fun d2 st2 v2 H2 ⟨xs, ys, e3, e4, hz, h2⟩ r2 o2 g2 => ?_⟩
  obtain ⟨a, vs, rfl, l, w⟩ := lst_of o2 r2 e3
  exact ⟨z, a, ys, rfl, rfl, .inl (by rw [← vals_str l e4]; exact .of w), by omega, q _ _ _ _ h2 (.str _) o2 (g1.trans g2)⟩

/-! ### attributes -/
theorem ins_of {B : Addr → Prop} {st : Store} {H : Hp} {v : V} {d : D} {c : Str} {fs : List (Str × D)} (o : RH W B st H) (r : Rep W B st H v d) (e : insOf st d = some (c, fs)) :
    ∃ a C dx gs, v = .ref a ∧ H a = some (.ins C dx gs) ∧ W.cls c = some C ∧ RepF W B st H gs fs := by
  cases r with
  | ins z f k l => cases e; exact ⟨_, _, _, _, rfl, f, k, l⟩
  | loc a =>
    have e' : (match st a with | some (.ins c fs) => some (c, fs) | _ => none) = some (c, fs) := e
    split at e'
    · rename_i c' fs' hs
      cases e'
      obtain ⟨C, dx, gs, f, k, l⟩ := o.ob _ _ hs
      exact ⟨_, _, _, _, rfl, f, k, l⟩
    · cases e'
  | _ => cases e
theorem s_att {o : Expr} {mo : M} {f : Str} {cf : Str → Str → Bool} (hcf : ∀ c C, cf c f = true → W.cls c = some C → Cls X.K C ∧ NoAttr X.K C f) (ho : PE X o (LE W mo)) (hb : ∀ w, attributeBase o f X.env w = w) :
    PE X (.Attribute o f pos) (LE W fun ρ st Q => mo ρ st fun x st1 => ∃ c fs d, insOf st1 x = some (c, fs) ∧ cf c f = true ∧ fs.lookup f = some d ∧ Q d st1) := by
  refine (pe_fld ho (hb _)).mono fun σ H Q ⟨B, ρ, st, P, r, h, q⟩ => ?_
  refine ⟨B, ρ, st, _, r, h, fun d1 st1 v1 H1 ⟨c, fs, d, e1, e2, e3, h1⟩ r1 o1 g1 => ?_⟩
  obtain ⟨a, C, dx, gs, rfl, w, k, l⟩ := ins_of o1 r1 e1
  obtain ⟨c1, c2⟩ := hcf c C e2 k
  obtain ⟨v, e4, rv⟩ := l.lookup f d e3
  exact ⟨a, C, dx, gs, v, rfl, w, c1, c2, e4, q _ _ _ _ h1 rv o1 g1⟩

/-! ### calls of defs -/
/-- a promise over plain values, of the heap -/
def LS (W : Wd) (sp : Spec) : Sp := fun vs H Q _ => ∃ B st ds P, RH W B st H ∧ RepL W B st H vs ds ∧ sp ds st P (fun _ _ _ => False) ∧
  ∀ d st' v H', P d st' → Rep W B st' H' v d → RH W B st' H' → Grow st H st' H' → Q v H'
theorem lift_call {ms : MA} {sp : Spec} : ∀ σ H Q, LE W (fun ρ st P => ms ρ st fun ds st1 => sp ds st1 P (fun _ _ _ => False)) σ H Q → tCall (LS W sp) [] E0 (LA W ms) σ H Q := by
  intro σ H Q ⟨B, ρ, st, P, r, h, q⟩
  refine ⟨B, ρ, st, _, r, h, fun ds st1 vs H1 h1 r1 o1 g1 => ?_⟩
  show LS W sp (vs ++ []) H1 Q E0
  rw [List.append_nil]
  exact ⟨B, st1, ds, P, o1, r1, h1, fun d st2 v H2 hp rv o2 g2 => q _ _ _ _ hp rv o2 (g1.trans g2)⟩
theorem s_call {k : Nat} {g : Addr} {fd : FuncData} {ps : List Str} {sp : Spec} {x : Str} {p : Pos} {e : Expr} {es : List Expr} {ms : MA} (F : FnOk X.prog X.w X.K X.mg X.base CX0 k g fd ps (LS W sp)) (hr : Room k X.A) (hg : Gl X x) (hm : X.mg x = some (.ref g)) (hk : PySem.W.keepIn X.K (.ref g) = true) (hb : Binds X.K fd ps [])
    (ha : PA X (e :: es) (LA W ms)) (hd : (x == ("__debug__" : Str)) = false) (hs : starEach (e :: es) X.env = (false, eval e X.env) :: starEach es X.env) (hpl : ((backTo pos (starEach es X.env)).any fun x => x.1) = false) :
    PE X (.Call (.Name x p) (e :: es) [] pos) (LE W fun ρ st Q => ms ρ st fun ds st1 => sp ds st1 Q (fun _ _ _ => False)) :=
  (pe_call F hr hg hm hk hb .nil pass0 ha hd hs hpl).mono lift_call
theorem s_call0 {k : Nat} {g : Addr} {fd : FuncData} {ps : List Str} {sp : Spec} {x : Str} {p : Pos} (F : FnOk X.prog X.w X.K X.mg X.base CX0 k g fd ps (LS W sp)) (hr : Room k X.A) (hg : Gl X x) (hm : X.mg x = some (.ref g)) (hk : PySem.W.keepIn X.K (.ref g) = true) (hb : Binds X.K fd ps [])
    (hd : (x == ("__debug__" : Str)) = false) : PE X (.Call (.Name x p) [] [] pos) (LE W fun _ st Q => sp [] st Q (fun _ _ _ => False)) :=
  (pe_call0 F hr hg hm hk hb .nil pass0 hd).mono fun σ H Q ⟨B, ρ, st, P, r, h, q⟩ => ⟨B, st, [], P, r.ob, .nil, h, q⟩
theorem meth_eval {o : Expr} {m : Str} {es : List Expr} {env : PySem.Env} (hb : ∀ w, attributeBase o m env w = w) (hl : (apos.endLine == pos.line) = true) (hf : methodCallForm es.length (backTo pos (starEach es env)) (backToKw pos (keywordEach [] env)) = true) :
    eval (.Call (.Attribute o m apos) es [] pos) env = (do
      let ov ← eval o env
      standAt apos.atName
      let (f, first) ← holding [ov] (getMethod ov m (do return (← importBound o env).getD true))
      callWith pos f first (backTo pos (starEach es env)) (backToKw pos (keywordEach [] env))) := by
  have e : eval (.Call (.Attribute o m apos) es [] pos) env = (do
      let ov ← attributeBase o m env (eval o env)
      standAt apos.atName
      methodCall o m apos pos env ov (es.length + ([] : List Keyword).length) (backTo pos (starEach es env)) (backToKw pos (keywordEach [] env))) := by rw [eval]
  rw [e, hb]
  have e2 : es.length + ([] : List Keyword).length = es.length := rfl
  simp only [methodCall, e2, hf, calleeOf, methodCallPos, hl, if_true, Bool.not_true, Bool.false_or]
  rfl
theorem s_mcl {o : Expr} {mo : M} {c m : Str} {C : Addr} {k : Nat} {g : Addr} {fd : FuncData} {ps : List Str} {sp : Spec} {e : Expr} {es : List Expr} {ms : MA} (ho : PE X o (LE W mo)) (hc : W.cls c = some C) (cl : Cls X.K C) (hm : Meth X.K C m g)
    (F : FnOk X.prog X.w X.K X.mg X.base CX0 k g fd ps (LS W sp)) (hr : Room k X.A) (hb : Binds X.K fd ps []) (ha : PA X (e :: es) (LA W ms)) (hs : starEach (e :: es) X.env = (false, eval e X.env) :: starEach es X.env) (hpl : ((backTo pos (starEach es X.env)).any fun x => x.1) = false)
    (hat : ∀ w, attributeBase o m X.env w = w) (hl : (apos.endLine == pos.line) = true) (hf : methodCallForm (e :: es).length (backTo pos (starEach (e :: es) X.env)) (backToKw pos (keywordEach [] X.env)) = true) :
    PE X (.Call (.Attribute o m apos) (e :: es) [] pos) (LE W fun ρ st Q => mo ρ st fun x st1 => ∃ fs, insOf st1 x = some (c, fs) ∧ fs.lookup m = none ∧ ms ρ st1 fun ds st2 => sp (x :: ds) st2 Q (fun _ _ _ => False)) := by
  refine (pe_meth ho cl hm F hr hb .nil pass0 ha hs hpl (meth_eval hat hl hf)).mono fun σ H Q ⟨B, ρ, st, P, r, h, q⟩ => ?_
  refine ⟨B, ρ, st, _, r, h, fun d1 st1 v1 H1 ⟨fs, e1, e2, h1⟩ r1 o1 g1 => ?_⟩
  obtain ⟨a, C', dx, gs, rfl, w, k', l⟩ := ins_of o1 r1 e1
  rw [hc] at k'; cases k'
  refine ⟨a, dx, gs, rfl, w, ?_, B, ρ, st1, _, r.step g1 o1, h1, fun ds st2 vs H2 h2 r2 o2 g2 => ?_⟩
  · cases z : gs.lookup m with
    | none => rfl
    | some v =>
      have : (m, v) ∈ gs := PySem.mem_of_lookup z
      have hm1 : m ∈ gs.map (·.1) := List.mem_map.mpr ⟨_, this, rfl⟩
      rw [l.keys] at hm1
      obtain ⟨p, hp, rfl⟩ := List.mem_map.mp hm1
      obtain ⟨d', hd'⟩ := mem_lookup (n := p.1) (c := p.2) hp
      rw [e2] at hd'; cases hd'
  · show LS W sp (.ref a :: (vs ++ [])) H2 Q E0
    rw [List.append_nil]
    exact ⟨B, st2, _, P, o2, .cons (r1.grow g2) r2, h2, fun d st3 v H3 hp rv o3 g3 => q _ _ _ _ hp rv o3 (g1.trans (g2.trans g3))⟩
theorem s_mcl0 {o : Expr} {mo : M} {c m : Str} {C : Addr} {k : Nat} {g : Addr} {fd : FuncData} {ps : List Str} {sp : Spec} (ho : PE X o (LE W mo)) (hc : W.cls c = some C) (cl : Cls X.K C) (hm : Meth X.K C m g)
    (F : FnOk X.prog X.w X.K X.mg X.base CX0 k g fd ps (LS W sp)) (hr : Room k X.A) (hb : Binds X.K fd ps [])
    (hat : ∀ w, attributeBase o m X.env w = w) (hl : (apos.endLine == pos.line) = true) :
    PE X (.Call (.Attribute o m apos) [] [] pos) (LE W fun ρ st Q => mo ρ st fun x st1 => ∃ fs, insOf st1 x = some (c, fs) ∧ fs.lookup m = none ∧ sp [x] st1 Q (fun _ _ _ => False)) := by
  refine (pe_meth0 ho cl hm F hr hb .nil pass0 (meth_eval hat hl rfl)).mono fun σ H Q ⟨B, ρ, st, P, r, h, q⟩ => ?_
  refine ⟨B, ρ, st, _, r, h, fun d1 st1 v1 H1 ⟨fs, e1, e2, h1⟩ r1 o1 g1 => ?_⟩
  obtain ⟨a, C', dx, gs, rfl, w, k', l⟩ := ins_of o1 r1 e1
  rw [hc] at k'; cases k'
  refine ⟨a, dx, gs, rfl, w, ?_, ?_⟩
  · cases z : gs.lookup m with
    | none => rfl
    | some v =>
      have : (m, v) ∈ gs := PySem.mem_of_lookup z
      have hm1 : m ∈ gs.map (·.1) := List.mem_map.mpr ⟨_, this, rfl⟩
      rw [l.keys] at hm1
      obtain ⟨p, hp, rfl⟩ := List.mem_map.mp hm1
      obtain ⟨d', hd'⟩ := mem_lookup (n := p.1) (c := p.2) hp
      rw [e2] at hd'; cases hd'
  · show LS W sp (.ref a :: ([] ++ [])) H1 Q E0
    exact ⟨B, st1, _, P, o1, .cons r1 .nil, h1, fun d st3 v H3 hp rv o3 g3 => q _ _ _ _ hp rv o3 (g1.trans g3)⟩
/-- a new instance -/
theorem ins_new {B : Addr → Prop} {st : Store} {H : Hp} {x dx C : Addr} {c : Str} (o : RH W B st H) (hx : H x = none) (hdx : H dx = none) (ne : dx ≠ x) (hc : W.cls c = some C) :
    RH W B (st.set x (.ins c [])) (upd (upd H dx (.own x)) x (.ins C dx [])) ∧ Grow st H (st.set x (.ins c [])) (upd (upd H dx (.own x)) x (.ins C dx [])) ∧ st x = none := by
  have s1 := same_upd (u := .own x) hdx
  have hx1 : upd H dx (.own x) x = none := by rw [upd_ne ne.symm]; exact hx
  obtain ⟨o2, g2⟩ := (o.same s1).alloc (u := .ins C dx []) (o' := .ins c []) hx1 fun _ => ⟨C, dx, [], upd_same, hc, .nil⟩
  exact ⟨o2, (Grow.same s1).trans g2, (o.free hx).1⟩
theorem lift_make {c : Str} {C : Addr} {ms : MA} {sp : Spec} (hc : W.cls c = some C) : ∀ σ H Q, LE W (fun ρ st P => ms ρ st fun ds st1 => ∀ a, st1 a = none → sp (.loc a :: ds) (st1.set a (.ins c [])) (fun d st2 => d = .non ∧ P (.loc a) st2) (fun _ _ _ => False)) σ H Q →
    tMake C (LS W sp) [] E0 (LA W ms) σ H Q := by
  intro σ H Q ⟨B, ρ, st, P, r, h, q⟩
  refine ⟨B, ρ, st, _, r, h, fun ds st1 vs H1 h1 r1 o1 g1 x dx hx hdx ne => ?_⟩
  obtain ⟨o2, g2, hn⟩ := ins_new o1 hx hdx ne hc
  rw [List.append_nil]
  refine ⟨B, _, .loc x :: ds, _, o2, .cons (.loc x) (r1.grow g2), h1 x hn, fun d st2 v H2 ⟨hd, hp⟩ rv o3 g3 => ?_⟩
  subst hd
  cases rv
  exact ⟨rfl, q _ _ _ _ hp (.loc x) o3 (g1.trans (g2.trans g3))⟩
theorem s_new {c : Str} {C : Addr} {k : Nat} {g : Addr} {fd : FuncData} {ps : List Str} {sp : Spec} {p : Pos} {e : Expr} {es : List Expr} {ms : MA} (hc : W.cls c = some C) (mk : Mk X.K C g) (F : FnOk X.prog X.w X.K X.mg X.base CX0 k g fd ps (LS W sp)) (hr : Room (k + 1) X.A) (hg : Gl X c) (hm : X.mg c = some (.ref C)) (hb : Binds X.K fd ps [])
    (ha : PA X (e :: es) (LA W ms)) (hd : (c == ("__debug__" : Str)) = false) (hs : starEach (e :: es) X.env = (false, eval e X.env) :: starEach es X.env) (hpl : ((backTo pos (starEach es X.env)).any fun x => x.1) = false) :
    PE X (.Call (.Name c p) (e :: es) [] pos) (LE W fun ρ st Q => ms ρ st fun ds st1 => ∀ a, st1 a = none → sp (.loc a :: ds) (st1.set a (.ins c [])) (fun d st2 => d = .non ∧ Q (.loc a) st2) (fun _ _ _ => False)) :=
  (pe_make mk F hr hg hm hb .nil pass0 ha hd hs hpl).mono (lift_make hc)
end
end G
/-! The checker of expressions: a small expression tells a written one. -/
namespace G
open PySem PySem.Spec PyProof.Rows L2
/-- the built-ins that a program leans on -/
def bnames : List Str := ["len", "tuple", "max", "min", "all", "any", "int", "sum", "isinstance", "list", "sorted", "dict", "range", "zip", "enumerate", "set", "bool", "str"]
def biName : Bi → Str
  | .len => "len" | .tuple => "tuple" | .max => "max" | .min => "min" | .all => "all" | .any => "any" | .int => "int" | .sum => "sum"
/-! ### small looks at a written expression -/
def visB (sc : Scope) (x : Str) : Bool := match sc.names.lookup x with | some .local => true | some .cell => true | some .free => true | _ => false
def glB (sc : Scope) (x : Str) : Bool := match sc.names.lookup x with | some .globalImplicit => true | _ => false
def locB (sc : Scope) (x : Str) : Bool := match sc.names.lookup x with | some .local => true | some .cell => true | _ => false
def nameOk (x : Str) : Bool := !(x == ("__debug__" : Str)) && !(x == ("__classdict__" : Str)) && decide (x ≠ "__name__")
def plB : Expr → Bool | .Starred _ _ => false | _ => true
def nslB : Expr → Bool | .Slice _ _ _ _ => false | _ => true
def nsetB : Expr → Bool | .Set _ _ _ => false | _ => true
def supB : Expr → Bool | .Call (.Name _ _) [] [] _ => false | _ => true
/-- the test of such an expression is its value's truth -/
def plainT : Expr → Bool | .UnaryOp .Not _ _ => false | .BoolOp _ _ _ => false | .IfExp _ _ _ _ => false | .Compare _ _ _ _ => false | _ => true
theorem star_pl {e : Expr} {es : List Expr} {env : PySem.Env} (h : plB e = true) : starEach (e :: es) env = (false, eval e env) :: starEach es env := by
  cases e <;> first | rfl | cases h
theorem ix_pl {e : Expr} (h : nslB e = true) : PlainIx e := by
  intro o i
  cases e <;> first | rfl | cases h
theorem mark_no {e : Expr} {op : CmpOp} (h : nsetB e = true) : behindInMarks op e = false := by
  cases e <;> first | rfl | cases h
theorem fold_no {e : Expr} {env : PySem.Env} (h : nsetB e = true) : ∀ x, foldedSetIterable e env x = pure x := by
  intro x
  cases e <;> first | rfl | cases h
theorem sup_no {o : Expr} {a : Str} {env : PySem.Env} (h : supB o = true) : ∀ w, attributeBase o a env w = w := by
  intro w
  unfold attributeBase
  split
  · cases h
  · rfl
theorem true_pl {e : Expr} {env : PySem.Env} (h : plainT e = true) : ∀ whole, isTrue e env whole = (do let v ← whole; standAt e.pos; holding [v] (truthy v)) := by
  intro whole
  cases e <;> first | rfl | (cases h) | skip
  all_goals (rename_i op x p; cases op <;> first | rfl | cases h)
theorem vis_of {sc : Scope} {x : Str} (h : visB sc x = true) : Vis sc x := by
  unfold visB at h
  split at h
  · exact .inl (by assumption)
  · exact .inr (.inl (by assumption))
  · exact .inr (.inr (by assumption))
  · cases h
theorem loc_of {sc : Scope} {x : Str} (h : locB sc x = true) : Loc sc x := by
  unfold locB at h
  split at h
  · exact .inl (by assumption)
  · exact .inr (by assumption)
  · cases h
theorem gl_of {sc : Scope} {x : Str} (h : glB sc x = true) : sc.names.lookup x = some .globalImplicit := by
  unfold glB at h
  split at h
  · assumption
  · cases h
theorem name_of {x : Str} (h : nameOk x = true) : (x == ("__debug__" : Str)) = false ∧ (x == ("__classdict__" : Str)) = false ∧ x ≠ "__name__" := by
  unfold nameOk at h
  simp only [Bool.and_eq_true, Bool.not_eq_true', decide_eq_true_eq] at h
  exact ⟨h.1.1, h.1.2, h.2⟩
/-- the names of the places, the defs and methods that are told -/
structure Kx where
  N : List Str
  fns : List Str
  mes : List (Str × Str)
def nmB (κ : Kx) (i : Nat) (x : Str) : Bool := decide (κ.N[i]? = some x)
def opB (o : Operator) : Bool := match o with | .Add => true | .Sub => true | .Mult => true | .Mod => true | .FloorDiv => true | .Pow => true | _ => false
def ownN (N : List Str) (own : List Nat) : List (Str × Nat) := own.map fun i => (N.getD i ⟨#[]⟩, i)
theorem ownN_snd (N : List Str) (own : List Nat) : (ownN N own).map (·.2) = own := by
  unfold ownN
  rw [List.map_map]
  show own.map (fun i => i) = own
  simp
mutual
/-- a target of names -/
def chPt (κ : Kx) (sc : Scope) : Pt → Expr → Bool
  | .var i, .Name x _ => nmB κ i x && locB sc x
  | .tup ps, .Tuple es _ _ => chPts κ sc ps es
  | _, _ => false
def chPts (κ : Kx) (sc : Scope) : Pts → List Expr → Bool
  | .nil, [] => true
  | .cons p ps, e :: es => plB e && chPt κ sc p e && chPts κ sc ps es
  | _, _ => false
end
def tysB1 (sc : Scope) (t : Str) (ts : List Ty) : Bool := match ts with | [u] => decide (t = Str.ofString (tyName u)) && decide (tyName u ≠ "") && glB sc t | _ => false
def tysB2 (sc : Scope) (t t' : Str) (ts : List Ty) : Bool := match ts with | [u, u'] => decide (t = Str.ofString (tyName u)) && decide (tyName u ≠ "") && glB sc t && decide (t' = Str.ofString (tyName u')) && decide (tyName u' ≠ "") && glB sc t' | _ => false
mutual
def chE (κ : Kx) (sc : Scope) : E → Expr → Bool
  | .var i, e => match e with | .Name x _ => nmB κ i x && visB sc x && nameOk x | _ => false
  | .non, e => match e with | .Constant .none _ _ => true | _ => false
  | .bl b, e => match e with | .Constant (.bool c) _ _ => b == c | _ => false
  | .int i, e => match e with | .Constant (.int j) _ _ => decide (i = j) | _ => false
  | .str x, e => match e with | .Constant (.str y) _ _ => decide (x = y) | _ => false
  | .glo x, e => match e with | .Name y _ => decide (x = y) && glB sc y && nameOk y | _ => false
  | .tup es, e => match e with | .Tuple l _ _ => chEs κ sc es l | _ => false
  | .fr p, e => chP κ sc p e
  | .bx p, e => chP κ sc p e
  | .bin o a b, e => match e with | .BinOp l o' r _ => decide (o = o') && opB o && chE κ sc a l && chE κ sc b r | _ => false
  | .neg a, e => match e with | .UnaryOp .USub x _ => chE κ sc a x | _ => false
  | .cmp o a b, e => match e with | .Compare l [o'] [r] _ => decide (o = o') && nsetB r && chE κ sc a l && chE κ sc b r | _ => false
  | .cmp2 o1 o2 a b c, e => match e with | .Compare l [p1, p2] [r, u] _ => decide (o1 = p1) && decide (o2 = p2) && nsetB u && chE κ sc a l && chE κ sc b r && chE κ sc c u | _ => false
  | .bop k es, e => match e with | .BoolOp .And l _ => k && !l.isEmpty && chEs κ sc es l | .BoolOp .Or l _ => !k && !l.isEmpty && chEs κ sc es l | _ => false
  | .orv a b, e => match e with | .BoolOp .Or [x, y] _ => chE κ sc a x && chE κ sc b y | _ => false
  | .not a, e => match e with | .UnaryOp .Not x _ => chE κ sc a x | _ => false
  | .ite t a b, e => match e with | .IfExp c x y _ => chT κ sc t c && chE κ sc a x && chE κ sc b y | _ => false
  | .idx a i, e => match e with | .Subscript x y _ => nslB y && chE κ sc a x && chE κ sc i y | _ => false
  | .slc a lo hi, e => match e with | .Subscript x (.Slice l h none _) _ => chE κ sc a x && chO κ sc lo l && chO κ sc hi h | _ => false
  | .rev a, e => match e with | .Subscript x (.Slice none none (some (.UnaryOp .USub (.Constant (.int i) _ _) _)) _) _ => decide (i = 1) && chE κ sc a x | _ => false
  | .bi b a, e => match e with | .Call (.Name f _) [x] [] _ => decide (f = biName b) && glB sc f && plB x && chE κ sc a x | _ => false
  | .mx m a b, e => match e with | .Call (.Name f _) [x, y] [] _ => decide (f = if m then "max" else "min") && glB sc f && plB x && plB y && chE κ sc a x && chE κ sc b y | _ => false
  | .isi a ts, e => match e with
    | .Call (.Name f _) [x, .Name t _] [] _ => decide (f = "isinstance") && glB sc f && plB x && chE κ sc a x && tysB1 sc t ts
    | .Call (.Name f _) [x, .Tuple [.Name t _, .Name t' _] _ _] [] _ => decide (f = "isinstance") && glB sc f && plB x && chE κ sc a x && tysB2 sc t t' ts
    | _ => false
  | .app o a, e => match e with | .Call (.Attribute v m ap) [x] [] p => decide (m = "append") && supB v && (ap.endLine == p.line) && plB x && chE κ sc o v && chE κ sc a x | _ => false
  | .pop o, e => match e with | .Call (.Attribute v m ap) [] [] p => decide (m = "pop") && supB v && (ap.endLine == p.line) && chE κ sc o v | _ => false
  | .popAt o a, e => match e with | .Call (.Attribute v m ap) [x] [] p => decide (m = "pop") && supB v && (ap.endLine == p.line) && plB x && chE κ sc o v && chE κ sc a x | _ => false
  | .ins o i a, e => match e with | .Call (.Attribute v m ap) [y, x] [] p => decide (m = "insert") && supB v && (ap.endLine == p.line) && plB y && plB x && chE κ sc o v && chE κ sc i y && chE κ sc a x | _ => false
  | .upper o, e => match e with | .Call (.Attribute v m ap) [] [] p => decide (m = "upper") && supB v && (ap.endLine == p.line) && chE κ sc o v | _ => false
  | .join o a, e => match e with | .Call (.Attribute v m ap) [x] [] p => decide (m = "join") && supB v && (ap.endLine == p.line) && plB x && chE κ sc o v && chE κ sc a x | _ => false
  | .get _ _, _ => false
  | .getd o i a, e => match e with | .Call (.Attribute v m ap) [y, x] [] p => decide (m = "get") && supB v && (ap.endLine == p.line) && plB y && plB x && chE κ sc o v && chE κ sc i y && chE κ sc a x | _ => false
  | .setd o i a, e => match e with | .Call (.Attribute v m ap) [y, x] [] p => decide (m = "setdefault") && supB v && (ap.endLine == p.line) && plB y && plB x && chE κ sc o v && chE κ sc i y && chE κ sc a x | _ => false
  | .upd o a, e => match e with | .Call (.Attribute v m ap) [x] [] p => decide (m = "update") && supB v && (ap.endLine == p.line) && plB x && chE κ sc o v && chE κ sc a x | _ => false
  | .mxd _ _ _, _ => false
  | .callk _ _ _, _ => false
  | .callL _ _ _ _, _ => false
  | .maxk _ _ _, _ => false
  | .att o f, e => match e with | .Attribute v g _ => decide (f = g) && supB v && chE κ sc o v | _ => false
  | .call f es, e => match e with | .Call (.Name g _) l [] _ => decide (f = g) && decide (f ∈ κ.fns) && glB sc g && nameOk g && chEs κ sc es l | _ => false
  | .mcl c m o es, e => match e with | .Call (.Attribute v g ap) l [] p => decide (m = g) && decide (m ≠ "__init__") && decide ((c, m) ∈ κ.mes) && supB v && (ap.endLine == p.line) && decide (l.length < 29) && chE κ sc o v && chEs κ sc es l | _ => false
  | .new c es, e => match e with | .Call (.Name g _) l [] _ => decide (c = g) && decide ((c, ("__init__" : Str)) ∈ κ.mes) && glB sc g && nameOk g && !l.isEmpty && chEs κ sc es l | _ => false
  | .clv _ _, _ => false
  | .frz a, e => chE κ sc a e
/-- as a test -/
def chT (κ : Kx) (sc : Scope) : E → Expr → Bool
  | .not a, e => match e with | .UnaryOp .Not x _ => chT κ sc a x | _ => false
  | .bop k es, e => match e with | .BoolOp .And l _ => k && !l.isEmpty && chTs κ sc es l | .BoolOp .Or l _ => !k && !l.isEmpty && chTs κ sc es l | _ => false
  | .cmp o a b, e => match e with | .Compare l [o'] [r] _ => decide (o = o') && nsetB r && chE κ sc a l && chE κ sc b r | _ => false
  | .cmp2 o1 o2 a b c, e => match e with | .Compare l [p1, p2] [r, u] _ => decide (o1 = p1) && decide (o2 = p2) && nsetB u && chE κ sc a l && chE κ sc b r && chE κ sc c u | _ => false
  | .var i, e => match e with | .Name x _ => nmB κ i x && visB sc x && nameOk x | _ => false
  | .call f es, e => match e with | .Call (.Name g _) l [] _ => decide (f = g) && decide (f ∈ κ.fns) && glB sc g && nameOk g && chEs κ sc es l | _ => false
  | .mcl c m o es, e => match e with | .Call (.Attribute v g ap) l [] p => decide (m = g) && decide (m ≠ "__init__") && decide ((c, m) ∈ κ.mes) && supB v && (ap.endLine == p.line) && decide (l.length < 29) && chE κ sc o v && chEs κ sc es l | _ => false
  | .isi a ts, e => match e with
    | .Call (.Name f _) [x, .Name t _] [] _ => decide (f = "isinstance") && glB sc f && plB x && chE κ sc a x && tysB1 sc t ts
    | .Call (.Name f _) [x, .Tuple [.Name t _, .Name t' _] _ _] [] _ => decide (f = "isinstance") && glB sc f && plB x && chE κ sc a x && tysB2 sc t t' ts
    | _ => false
  | .bi b a, e => match e with | .Call (.Name f _) [x] [] _ => decide (f = biName b) && glB sc f && plB x && chE κ sc a x | _ => false
  | .bl b, e => match e with | .Constant (.bool c) _ _ => b == c | _ => false
  | _, _ => false
def chP (κ : Kx) (sc : Scope) : P → Expr → Bool
  | .disp es, e => match e with | .List l _ => chEs κ sc es l | _ => false
  | .cat a b, e => match e with | .BinOp l .Add r _ => chE κ sc a l && chE κ sc b r | _ => false
  | .rep a b, e => match e with | .BinOp l .Mult r _ => chE κ sc a l && chE κ sc b r | _ => false
  | .slc a lo hi, e => match e with | .Subscript x (.Slice l h none _) _ => chE κ sc a x && chO κ sc lo l && chO κ sc hi h | _ => false
  | .rev a, e => match e with | .Subscript x (.Slice none none (some (.UnaryOp .USub (.Constant (.int i) _ _) _)) _) _ => decide (i = 1) && chE κ sc a x | _ => false
  | .list a, e => match e with | .Call (.Name f _) [x] [] _ => decide (f = "list") && glB sc f && plB x && chE κ sc a x | _ => false
  | .sorted a, e => match e with | .Call (.Name f _) [x] [] _ => decide (f = "sorted") && glB sc f && plB x && chE κ sc a x | _ => false
  | .sortedI a, e => match e with | .Call (.Name f _) [.Call (.Attribute v m ap) [] [] p] [] _ => decide (f = "sorted") && glB sc f && decide (m = "items") && supB v && (ap.endLine == p.line) && chE κ sc a v | _ => false
  | .sortedS _, _ => false
  | .listK a, e => match e with | .Call (.Name f _) [x] [] _ => decide (f = "list") && glB sc f && plB x && chE κ sc a x | _ => false
  | .dct0, e => match e with | .Dict [] [] _ => true | _ => false
  | .dct1 k v, e => match e with | .Dict [some x] [y] _ => chE κ sc k x && chE κ sc v y | _ => false
  | .dcto _, _ => false
  | .dctc own p it kx vx, e => match e with
    | .DictComp k v [⟨tg, iter, [], 0⟩] scope _ => blkC κ.N sc scope (ownN κ.N own) && chPt κ scope p tg && decide (∀ i ∈ p.slots, i ∈ own) && nsetB iter && chI κ sc it tg iter && chE κ (relS scope sc) kx k && chE κ (relS scope sc) vx v
    | _ => false
  | .comp2 own p it c own1 p1 it1 c1 elt, e => match e with
    | .ListComp el [⟨tg, iter, ifs, 0⟩, ⟨tg1, iter1, ifs1, 0⟩] scope _ => blkC κ.N sc scope (ownN κ.N own) && chPt κ scope p tg && decide (∀ i ∈ p.slots, i ∈ own) && nsetB iter && chI κ sc it tg iter &&
        (match ifs with | [] => (match c with | .bl b => b | _ => false) | [t] => chT κ (relS scope sc) c t | _ => false) &&
        decide (∀ i ∈ own1, i ∈ own) && chPt κ scope p1 tg1 && decide (∀ i ∈ p1.slots, i ∈ own1) && nsetB iter1 && chI κ (relS scope sc) it1 tg1 iter1 &&
        (match ifs1 with | [] => (match c1 with | .bl b => b | _ => false) | [t] => chT κ (relS scope sc) c1 t | _ => false) && chE κ (relS scope sc) elt el
    | _ => false
  | .comp own p it elt, e => match e with
    | .ListComp el [⟨tg, iter, [], 0⟩] scope _ => blkC κ.N sc scope (ownN κ.N own) && chPt κ scope p tg && decide (∀ i ∈ p.slots, i ∈ own) && nsetB iter && chI κ sc it tg iter && chE κ (relS scope sc) elt el
    | _ => false
  | .compif own p it c elt, e => match e with
    | .ListComp el [⟨tg, iter, [t], 0⟩] scope _ => blkC κ.N sc scope (ownN κ.N own) && chPt κ scope p tg && decide (∀ i ∈ p.slots, i ∈ own) && nsetB iter && chI κ sc it tg iter && chT κ (relS scope sc) c t && chE κ (relS scope sc) elt el
    | _ => false
def chO (κ : Kx) (sc : Scope) : Bd → Option Expr → Bool
  | .no, none => true
  | .at e, some x => chE κ sc e x
  | _, _ => false
def chEs (κ : Kx) (sc : Scope) : Es → List Expr → Bool
  | .nil, l => match l with | [] => true | _ => false
  | .cons e es, l => match l with | x :: xs => plB x && chE κ sc e x && chEs κ sc es xs | _ => false
def chTs (κ : Kx) (sc : Scope) : Es → List Expr → Bool
  | .nil, l => match l with | [] => true | _ => false
  | .cons e es, l => match l with | x :: xs => chT κ sc e x && chTs κ sc es xs | _ => false
def chI (κ : Kx) (sc : Scope) : It → Expr → Expr → Bool
  | .of a, _, e => chE κ sc a e
  | .range1 a, _, e => match e with | .Call (.Name f _) [x] [] _ => decide (f = "range") && glB sc f && plB x && chE κ sc a x | _ => false
  | .range2 a b, _, e => match e with | .Call (.Name f _) [x, y] [] _ => decide (f = "range") && glB sc f && plB x && plB y && chE κ sc a x && chE κ sc b y | _ => false
  | .zip a b, tg, e => match tg, e with | .Tuple _ _ _, .Call (.Name f _) [x, y] [] _ => decide (f = "zip") && glB sc f && plB x && plB y && chE κ sc a x && chE κ sc b y | _, _ => false
  | .ofL a, _, e => chE κ sc a e
  | .enum _, _, _ => false
  | .items a, tg, e => match tg, e with | .Tuple _ _ _, .Call (.Attribute v m ap) [] [] p => decide (m = "items") && supB v && (ap.endLine == p.line) && chE κ sc a v | _, _ => false
  | .keys a, _, e => chE κ sc a e
end
end G
/-! The checker is right: expressions. -/
namespace G
open PySem PySem.Spec PyProof.Rows L2 C8
abbrev X0 : XPost := fun _ _ _ => False
/-- what is known of the program and of the context -/
structure Fx (Γ : Ctx) (W : Wd) (X : Cx) : Prop where
  K : X.K = W.K
  w : X.w = W.w
  calm : X.calm = true
  room : X.A.units + 100 < cLine
  bn : ∀ x ∈ bnames, X.mg x = none
  gl : ∀ x d, Γ.gl x = some d → ∃ v u, X.mg x = some u ∧ RelV v u ∧ ∀ B st H, Rep W B st H v d
  fn : ∀ f sp, Γ.fn f = some sp → ∃ k, Cal X.prog X.w X.K X.mg X.base k f (LS W sp) [] ∧ Room k X.A
  cf : ∀ c f C, Γ.cf c f = true → W.cls c = some C → Cls X.K C ∧ NoAttr X.K C f
  me : ∀ c m sp, Γ.me c m = some sp → m ≠ "__init__" → ∃ C k, W.cls c = some C ∧ Met X.prog X.w X.K X.mg X.base k C m (LS W sp) [] ∧ Room k X.A
  nw : ∀ c sp, Γ.me c "__init__" = some sp → ∃ C k, W.cls c = some C ∧ Mak X.prog X.w X.K X.mg X.base k c C (LS W sp) [] ∧ Room (k + 1) X.A
structure Okk (Γ : Ctx) (W : Wd) (κ : Kx) (sc : Scope) (X : Cx) : Prop where
  hN : X.N = κ.N
  hsc : X.env.scope = sc
  nd : κ.N.Nodup
  fns : ∀ f ∈ κ.fns, ∃ sp, Γ.fn f = some sp
  mes : ∀ c m, (c, m) ∈ κ.mes → ∃ sp, Γ.me c m = some sp
  fx : Fx Γ W X
theorem Fx.blk {Γ : Ctx} {W : Wd} {X : Cx} (h : Fx Γ W X) (s : Shared) (H : Hp) (scope : Scope) (ce : PySem.Env) (fp : List Addr) : Fx Γ W (X.blk s H scope ce fp) :=
  ⟨h.K, h.w, h.calm, h.room, h.bn, h.gl, h.fn, h.cf, h.me, h.nw⟩
theorem Okk.blk {Γ : Ctx} {W : Wd} {κ : Kx} {sc : Scope} {X : Cx} (h : Okk Γ W κ sc X) (s : Shared) (H : Hp) (scope : Scope) (C : Addr) (cl : List (Str × Addr)) (fp : List Addr) : Okk Γ W κ (relS scope sc) (X.blk s H scope (compEnvC scope cl C X.env) fp) :=
  ⟨h.hN, by show relS scope X.env.scope = relS scope sc; rw [h.hsc], h.nd, h.fns, h.mes, h.fx.blk ..⟩
section
variable {Γ : Ctx} {W : Wd} {κ : Kx} {sc : Scope} {X : Cx}
theorem Okk.gl (ok : Okk Γ W κ sc X) {x : Str} (h : glB sc x = true) : Gl X x := by
  show X.env.scope.names.lookup x = _
  rw [ok.hsc]; exact gl_of h
theorem Okk.vis (ok : Okk Γ W κ sc X) {x : Str} (h : visB sc x = true) : Vis X.env.scope x := by rw [ok.hsc]; exact vis_of h
theorem Okk.ix (ok : Okk Γ W κ sc X) {i : Nat} {x : Str} (h : nmB κ i x = true) : X.N[i]? = some x := by rw [ok.hN]; exact of_decide_eq_true h
theorem Okk.bn (ok : Okk Γ W κ sc X) {x : Str} (h : x ∈ bnames := by decide +kernel) : X.mg x = none := ok.fx.bn x h
theorem Okk.ndX (ok : Okk Γ W κ sc X) : X.N.Nodup := by rw [ok.hN]; exact ok.nd
theorem Okk.hu (ok : Okk Γ W κ sc X) : X.A.units + 64 < cLine := by have := ok.fx.room; omega
/-- targets of a block's own names -/
theorem lookS {sc : Scope} : ∀ {names : List (Str × NameKind)} {x : Str}, (names.lookup x = some .local ∨ names.lookup x = some .cell) →
    ((names.map fun (n, k) => if (k == NameKind.free && sc.kind == .function && sc.names.lookup n == some .cell) then (n, NameKind.cell) else (n, k)).lookup x = names.lookup x) := by
  intro names x h
  rcases h with h | h <;> rw [h] <;> exact lookup_relS_keep (by decide) h
mutual
theorem soPtB (ok : Okk Γ W κ sc X) (s : Shared) (H : Hp) (scope : Scope) (C : Addr) (cl : List (Str × Addr)) (fp : List Addr) : ∀ (p : Pt) (e : Expr), chPt κ scope p e = true → PG (X.blk s H scope (compEnvC scope cl C X.env) fp) e (LG W p)
  | .var i, e, h => by
    cases e <;> simp only [chPt, Bool.false_eq_true] at h
    rename_i x p
    rw [Bool.and_eq_true] at h
    have l := loc_of h.2
    have l2 : Loc (relS scope X.env.scope) x := by
      have e := lookS (sc := X.env.scope) l
      rcases l with l | l
      · exact .inl (e.trans l)
      · exact .inr (e.trans l)
    refine g_var (X := X.blk s H scope (compEnvC scope cl C X.env) fp) ok.ndX (ok.ix h.1) l2 ?_
    rcases l with l | l
    · exact .inr ((lookS (sc := X.env.scope) (.inl l)).trans l)
    · refine .inl ?_
      show (scope.names.lookup x == some .cell) = true
      rw [l]; rfl
  | .tup ps, e, h => by
    cases e <;> simp only [chPt, Bool.false_eq_true] at h
    obtain ⟨g, hl, hn⟩ := soPtsB ok s H scope C cl fp ps _ h
    exact g_tup (X := X.blk s H scope (compEnvC scope cl C X.env) fp) ok.fx.K ok.fx.calm g (fun ds ρ P q => (asgs_len ps ds ρ P q).trans hl.symm) hn.1 hn.2
theorem soPtsB (ok : Okk Γ W κ sc X) (s : Shared) (H : Hp) (scope : Scope) (C : Addr) (cl : List (Str × Addr)) (fp : List Addr) : ∀ (p : Pts) (es : List Expr), chPts κ scope p es = true →
    PGs (X.blk s H scope (compEnvC scope cl C X.env) fp) es (LGs W p) ∧ es.length = p.len ∧ (assignEach es (X.blk s H scope (compEnvC scope cl C X.env) fp).env).length = es.length ∧ (assignEach es (X.blk s H scope (compEnvC scope cl C X.env) fp).env).findIdx? (·.1) = none
  | .nil, es, h => by
    cases es with
    | nil => exact ⟨g_nil, rfl, rfl, rfl⟩
    | cons _ _ => simp [chPts] at h
  | .cons p ps, es, h => by
    cases es with
    | nil => simp [chPts] at h
    | cons e es =>
      simp only [chPts, Bool.and_eq_true] at h
      obtain ⟨⟨h1, h2⟩, h3⟩ := h
      have g1 := soPtB ok s H scope C cl fp p e h2
      obtain ⟨g2, l2, n2, f2⟩ := soPtsB ok s H scope C cl fp ps es h3
      have ea : assignEach (e :: es) (X.blk s H scope (compEnvC scope cl C X.env) fp).env = (false, assign e (X.blk s H scope (compEnvC scope cl C X.env) fp).env) :: assignEach es (X.blk s H scope (compEnvC scope cl C X.env) fp).env := by
        cases e <;> first | rfl | cases h1
      refine ⟨g_cons g1 g2 (by rw [ea]; rfl), by simp [Pts.len, l2], by rw [ea]; simp [n2], ?_⟩
      rw [ea, List.findIdx?_cons]
      simp [f2]
end
end
end G
/-! t[::-1]; True + 1. -/
namespace G
open PySem PySem.Spec PyProof.Rows L2
section
open HT
variable {prog : Program} {w : World} {A : Around} {E : Value → Shared → Prop} {s : Shared}
theorem adjust_rev (n : Nat) : Builtin.Slice.sliceAdjust none none (-1) (n : Int) = ((n : Int) - 1, -1) := by
  unfold Builtin.Slice.sliceAdjust
  rfl
theorem places_rev (n : Nat) : Builtin.Slice.slicePlaces ((n : Int) - 1) (-1) (-1) = n := by
  unfold Builtin.Slice.slicePlaces
  have h1 : ¬ (-1 : Int) > 0 := by omega
  simp only [h1, if_false]
  rw [show (- -1 : Int) = 1 by decide, Int.ediv_one]
  split <;> omega
theorem sliceApplied_rev {sl : Addr} {vs : Value} {n : Nat} {Q : Int × Int × Nat → Shared → Prop} (hs : s.heap.IsSliceOf sl .none .none vs) (ps : IsPart vs (some (-1)))
    (h : Q (((n : Int) - 1), -1, n) s) : wpAny (model prog w) A (Builtin.Slice.sliceApplied (.ref sl) (pure (n : Int))) Q E s := by
  obtain ⟨os, hos, hcs, hds⟩ := id hs
  unfold Builtin.Slice.sliceApplied Builtin.Slice.sliceFields
  refine wpAny_bind (wpAny_bind (wpAny_field hos hds (x := .none) rfl (wpAny_bind (wpAny_field hos hds (x := .none) rfl (wpAny_bind (wpAny_field hos hds (x := vs) rfl (wpAny_pure ?_)))))))
  refine wpAny_bind (slicePart_ ps ?_)
  show wpAny _ _ (if ((-1 : Int) == 0) = true then _ else _) _ _ s
  rw [if_neg (by decide)]
  refine wpAny_bind (slicePart_none (wpAny_bind (slicePart_none (wpAny_bind (wpAny_pure ?_)))))
  show wpAny _ _ (match Builtin.Slice.sliceAdjust none none (-1) (n : Int) with | (lo, hi) => pure (lo, (-1 : Int), Builtin.Slice.slicePlaces lo hi (-1))) _ _ s
  rw [adjust_rev n]
  show wpAny _ _ (pure ((n : Int) - 1, (-1 : Int), Builtin.Slice.slicePlaces ((n : Int) - 1) (-1) (-1))) _ _ s
  rw [places_rev]
  exact wpAny_pure h
theorem pick_rev (xs : Array Value) : ((List.range xs.size).filterMap fun (m : Nat) => xs[((xs.size : Int) - 1 + (m : Int) * -1).toNat]?).toArray = xs.toList.reverse.toArray := by
  rw [← PySem.W.krv_pick xs]
  unfold slicePick
  rw [PySem.W.krv_bounds]
  show _ = ((sliceRange ((xs.size : Int) - 1) (-1) (-1)).filterMap (xs[·]?)).toArray
  rw [PySem.W.krv_sliceRange, List.filterMap_map]
  have e : (fun (m : Nat) => xs[((xs.size : Int) - 1 + (m : Int) * -1).toNat]?) = ((fun x => xs[x]?) ∘ fun m => xs.size - 1 - m) := by
    funext m
    have e : ((xs.size : Int) - 1 + (m : Int) * -1).toNat = xs.size - 1 - m := by omega
    simp only [Function.comp, e]
  rw [e]
theorem getItem_tuple_rev {t sl : Addr} {items : Array Value} {vs : Value} {Q : Value → Shared → Prop} (ht : IsTup s.heap t items) (hs : s.heap.IsSliceOf sl .none .none vs) (ps : IsPart vs (some (-1)))
    (h : Q (.ref s.heap.objs.size) { s with heap := s.heap.push { cls := .type "tuple", data := .seq items.toList.reverse.toArray } })
    (hsz : items.size ≤ sizeLine) : wpAny (model prog w) A (getItem (.ref t) (.ref sl)) Q E s := by
  have htake : sizeOk (.seq items.toList.reverse.toArray) := by
    show items.toList.reverse.toArray.size ≤ sizeLine
    rw [List.size_toArray, List.length_reverse, Array.length_toList]
    omega
  obtain ⟨os, hos, hcs, hds⟩ := id hs
  have hTs : s.TypeIs (.ref sl) "slice" := ⟨os, hos, hcs⟩
  unfold getItem
  try with_reducible refine wpAny_holding ?_
  first | refine wpAny_bind (wpAny_pure ?_) | skip
  refine wpAny_bind (wpAny_sequenceKey ht.typeIs (by decide) (wpAny_bind (wpAny_callSpecial?_slot (name := Str.ofString "__getitem__") ht.typeIs PyProof.Rows.slot_tuple_getitem (wpAny_call_entry PyProof.Rows.slot_tuple_getitem ht.typeIs entry_tuple_getitem ?_ (args_tuple_getitem _ _)))))
  show wpAny _ _ (Builtin.Tuple.tupleItemsOf (.ref t) >>= _) _ _ s; refine wpAny_bind (tupleItemsOf_ ht (wpAny_bind (wpAny_typeOf hTs ?_)))
  rw [if_pos (by decide)]; refine wpAny_bind (sliceApplied_rev hs ps ?_)
  have hno : ¬ ((((items.size : Int) - 1 == 0) && ((-1 : Int) == 1) && (items.size == items.size)) = true) := by
    intro q
    rw [Bool.and_eq_true, Bool.and_eq_true] at q
    exact absurd q.1.2 (by decide)
  show wpAny _ _ (if (((items.size : Int) - 1 == 0) && ((-1 : Int) == 1) && (items.size == items.size)) = true then _ else _) _ _ s
  rw [if_neg hno, pick_rev]
  first
    | exact wpAny_bind (m := Builtin.Tuple.tupleExact _) (wpAny_newObj_type (wpAny_pure ⟨_, rfl, wpAny_pure h⟩) htake)
    | exact wpAny_bind (m := Builtin.Tuple.tupleExact _) (wpAny_newObj_type (wpAny_bind (wpAny_pure (wpAny_pure ⟨_, rfl, wpAny_pure h⟩))) htake)
    | exact wpAny_bind (wpAny_bind (m := Builtin.Tuple.tupleExact _) (wpAny_newObj_type (wpAny_pure (wpAny_pure ⟨_, rfl, wpAny_pure h⟩)) htake))
    | exact wpAny_bind (wpAny_bind (m := Builtin.Tuple.tupleExact _) (wpAny_newObj_type (wpAny_pure ⟨_, rfl, wpAny_pure h⟩) htake))
end
section
variable {X : Cx} {W : Wd} {pos : Pos}
def tRevT (K : PySem.W.Frag) (te : TE) : TE := fun σ H Q => te σ H fun x H1 => ∃ a xs, x = .ref a ∧ SqT K H1 a xs ∧ NewT H1 xs.reverse Q
theorem pe_revT {e : Expr} {te : TE} {k : Nat} {p1 p2 p3 pos : Pos} (he : PE X e te) : PE X (.Subscript e (.Slice none none (some (.UnaryOp .USub (.Constant (.int 1) k p1) p2)) p3) pos) (tRevT X.K te) := by
  refine ⟨fun pins s σ H Q I h => ?_⟩
  refine Subscript_ (thn (he.run pins s σ H _ I h) fun v s1 ⟨x, H1, I1, r1, q1⟩ => ?_)
  obtain ⟨a, xs, ex, hx, q⟩ := q1
  subst ex
  cases r1
  have hst : PO X (some (.UnaryOp .USub (.Constant (.int 1) k p1) p2)) (tPart (tUn (rU fun i => .int (-i)) (tC (.int 1)))) := po_some (pe_un un_neg pe_int)
  have none1 : ∀ (s1 : Shared) (K1 : Hp), Inv X pins σ K1 s1 → wpAny (model X.prog X.w) X.A (evalPart none X.env) (fun u s' => s' = s1 ∧ u = .none) X.xe s1 := fun s1 K1 I1 => by
    rw [evalPart_none]; exact wpAny_pure ⟨rfl, rfl⟩
  refine wpAny_Slice (thn (none1 s1 H1 I1) fun vl s2 ⟨es2, el⟩ => thn (none1 s2 H1 (es2 ▸ I1)) fun vu s3 ⟨es3, eu⟩ => ?_)
  subst es2 el es3 eu
  refine thn (hst.run pins _ σ H1 (fun b H4 => b = some (-1) ∧ H4 = H1) I1 ⟨1, rfl, -1, rfl, rfl, rfl⟩) fun vs s4 ⟨_, H4, I4, ps, eb, eh⟩ => ?_
  subst eb eh
  have IS : Inv X pins σ H4 { s4 with heap := s4.heap.push { cls := .type "slice", data := .fields #[.none, .none, vs] } } := I4.kept (t' := s4.toks) fun b ob q => Heap.get?_push_of_some _ q
  obtain ⟨its, r, ht, hz⟩ := IS.tuple hx
  have hlen := r.length
  show wpAny (model X.prog X.w) X.A (subscriptTail e (.Slice none none (some (.UnaryOp .USub (.Constant (.int 1) k p1) p2)) p3) (.ref a) (.ref s4.heap.objs.size)) (EP X pins σ Q) X.xe ({ s4 with heap := s4.heap.push { cls := .type "slice", data := .fields #[.none, .none, vs] } } : Shared)
  refine tail_any (ops := [.ref a, .ref s4.heap.objs.size]) ht.typeIs (PyProof.Rows.slot_tuple_getitem.lookup) ?_ (by with_unfolding_all rfl)
  refine getItem_tuple_rev (show IsTup _ a its.toArray from ht) (Heap.IsSliceOf.new _ .none .none vs) ps ?_ (by rw [List.size_toArray]; omega)
  exact tup_new0 IS r.reverse (by rw [List.length_reverse]; exact hz) q
theorem s_rev {a : Expr} {k : Nat} {p1 p2 p3 : Pos} {ma : M} (hK : X.K = W.K) (ha : PE X a (LE W ma)) :
    PE X (.Subscript a (.Slice none none (some (.UnaryOp .USub (.Constant (.int 1) k p1) p2)) p3) pos) (LE W fun ρ st Q => ma ρ st fun x st1 => revR x fun r => Q r st1) := by
  refine (pe_revT ha).mono fun σ H Q ⟨B, ρ, st, P, r, h, q⟩ => ?_
  refine ⟨B, ρ, st, _, r, h, fun d1 st1 v1 H1 h1 r1 o1 g1 => ?_⟩
  unfold revR at h1
  split at h1
  · cases r1 with
    | tup f l => exact ⟨_, _, rfl, by rw [hK]; exact f.sq, fun p o hp hd => q _ _ _ _ h1 (Rep.newTup o1 hp hd l.rev) (o1.same (same_upd hp)) (g1.trans (Grow.same (same_upd hp)))⟩
  · exact h1.elim
end
end G
/-! Dicts with nested keys. -/
namespace G
open PySem PySem.Spec PyProof.Rows L2
/-! ### keys -/
mutual
theorem eqv_nk : ∀ (a b : D) (x y : NestedKey), nk a = some x → nk b = some y → a.eqv b = NestedKey.beq x y
  | .non, .non, _, _, h, h' => by cases h; cases h'; rfl
  | .non, .bl _, _, _, h, h' => by cases h; cases h'; rfl
  | .non, .int _, _, _, h, h' => by cases h; cases h'; rfl
  | .non, .str _, _, _, h, h' => by cases h; cases h'; rfl
  | .non, .tup _, _, _, h, h' => by cases h; simp only [nk, Option.map_eq_some_iff] at h'; obtain ⟨_, _, rfl⟩ := h'; rfl
  | .bl _, .non, _, _, h, h' => by cases h; cases h'; rfl
  | .bl a, .bl b, _, _, h, h' => by cases h; cases h'; cases a <;> cases b <;> rfl
  | .bl a, .int b, _, _, h, h' => by cases h; cases h'; rfl
  | .bl _, .str _, _, _, h, h' => by cases h; cases h'; rfl
  | .bl _, .tup _, _, _, h, h' => by cases h; simp only [nk, Option.map_eq_some_iff] at h'; obtain ⟨_, _, rfl⟩ := h'; rfl
  | .int _, .non, _, _, h, h' => by cases h; cases h'; rfl
  | .int a, .bl b, _, _, h, h' => by cases h; cases h'; rfl
  | .int a, .int b, _, _, h, h' => by cases h; cases h'; rfl
  | .int _, .str _, _, _, h, h' => by cases h; cases h'; rfl
  | .int _, .tup _, _, _, h, h' => by cases h; simp only [nk, Option.map_eq_some_iff] at h'; obtain ⟨_, _, rfl⟩ := h'; rfl
  | .str _, .non, _, _, h, h' => by cases h; cases h'; rfl
  | .str _, .bl _, _, _, h, h' => by cases h; cases h'; rfl
  | .str _, .int _, _, _, h, h' => by cases h; cases h'; rfl
  | .str _, .str _, _, _, h, h' => by cases h; cases h'; rfl
  | .str _, .tup _, _, _, h, h' => by cases h; simp only [nk, Option.map_eq_some_iff] at h'; obtain ⟨_, _, rfl⟩ := h'; rfl
  | .tup _, .non, _, _, h, h' => by cases h'; simp only [nk, Option.map_eq_some_iff] at h; obtain ⟨_, _, rfl⟩ := h; rfl
  | .tup _, .bl _, _, _, h, h' => by cases h'; simp only [nk, Option.map_eq_some_iff] at h; obtain ⟨_, _, rfl⟩ := h; rfl
  | .tup _, .int _, _, _, h, h' => by cases h'; simp only [nk, Option.map_eq_some_iff] at h; obtain ⟨_, _, rfl⟩ := h; rfl
  | .tup _, .str _, _, _, h, h' => by cases h'; simp only [nk, Option.map_eq_some_iff] at h; obtain ⟨_, _, rfl⟩ := h; rfl
  | .tup a, .tup b, _, _, h, h' => by
    simp only [nk, Option.map_eq_some_iff] at h h'
    obtain ⟨x, hx, rfl⟩ := h
    obtain ⟨y, hy, rfl⟩ := h'
    rw [D.eqv, NestedKey.beq, eqvs_nk a b x y hx hy]
  | .lst _, _, _, _, h, _ => by cases h
  | .dct _, _, _, _, h, _ => by cases h
  | .ins _ _, _, _, _, h, _ => by cases h
  | .loc _, _, _, _, h, _ => by cases h
  | .clo _, _, _, _, h, _ => by cases h
  | .ro _, _, _, _, h, _ => by cases h
  | .non, .lst _, _, _, _, h => by cases h
  | .non, .dct _, _, _, _, h => by cases h
  | .non, .ins _ _, _, _, _, h => by cases h
  | .non, .loc _, _, _, _, h => by cases h
  | .non, .clo _, _, _, _, h => by cases h
  | .non, .ro _, _, _, _, h => by cases h
  | .bl _, .lst _, _, _, _, h => by cases h
  | .bl _, .dct _, _, _, _, h => by cases h
  | .bl _, .ins _ _, _, _, _, h => by cases h
  | .bl _, .loc _, _, _, _, h => by cases h
  | .bl _, .clo _, _, _, _, h => by cases h
  | .bl _, .ro _, _, _, _, h => by cases h
  | .int _, .lst _, _, _, _, h => by cases h
  | .int _, .dct _, _, _, _, h => by cases h
  | .int _, .ins _ _, _, _, _, h => by cases h
  | .int _, .loc _, _, _, _, h => by cases h
  | .int _, .clo _, _, _, _, h => by cases h
  | .int _, .ro _, _, _, _, h => by cases h
  | .str _, .lst _, _, _, _, h => by cases h
  | .str _, .dct _, _, _, _, h => by cases h
  | .str _, .ins _ _, _, _, _, h => by cases h
  | .str _, .loc _, _, _, _, h => by cases h
  | .str _, .clo _, _, _, _, h => by cases h
  | .str _, .ro _, _, _, _, h => by cases h
  | .tup _, .lst _, _, _, _, h => by cases h
  | .tup _, .dct _, _, _, _, h => by cases h
  | .tup _, .ins _ _, _, _, _, h => by cases h
  | .tup _, .loc _, _, _, _, h => by cases h
  | .tup _, .clo _, _, _, _, h => by cases h
  | .tup _, .ro _, _, _, _, h => by cases h
theorem eqvs_nk : ∀ (a b : List D) (x y : List NestedKey), nks a = some x → nks b = some y → D.eqvs a b = NestedKey.beqAll x y
  | [], [], _, _, h, h' => by cases h; cases h'; rfl
  | [], b :: bs, _, _, h, h' => by
    cases h
    unfold nks at h'
    split at h' <;> cases h'
    rfl
  | a :: as, [], _, _, h, h' => by
    cases h'
    unfold nks at h
    split at h <;> cases h
    rfl
  | a :: as, b :: bs, _, _, h, h' => by
    unfold nks at h h'
    split at h
    · rename_i x xs e1 e2
      cases h
      split at h'
      · rename_i y ys e3 e4
        cases h'
        rw [D.eqvs, NestedKey.beqAll, eqv_nk a b x y e1 e3, eqvs_nk as bs xs ys e2 e4]
      · cases h'
    · cases h
end
mutual
theorem nk_some : ∀ (d : D), d.hashB = true → ∃ k, nk d = some k
  | .non, _ => ⟨_, rfl⟩
  | .bl _, _ => ⟨_, rfl⟩
  | .int _, _ => ⟨_, rfl⟩
  | .str _, _ => ⟨_, rfl⟩
  | .tup xs, h => by
    obtain ⟨ks, e⟩ := nks_some xs (by simpa [D.hashB] using h)
    exact ⟨.tup ks, by simp [nk, e]⟩
  | .lst _, h => by simp [D.hashB] at h
  | .dct _, h => by simp [D.hashB] at h
  | .ins _ _, h => by simp [D.hashB] at h
  | .loc _, h => by simp [D.hashB] at h
  | .clo _, h => by simp [D.hashB] at h
  | .ro _, h => by simp [D.hashB] at h
theorem nks_some : ∀ (d : List D), D.hashBs d = true → ∃ k, nks d = some k
  | [], _ => ⟨_, rfl⟩
  | x :: xs, h => by
    simp only [D.hashBs, Bool.and_eq_true] at h
    obtain ⟨a, e1⟩ := nk_some x h.1
    obtain ⟨b, e2⟩ := nks_some xs h.2
    exact ⟨_, by unfold nks; rw [e1, e2]⟩
end
mutual
theorem nk_dep : ∀ (d : D) (n : Nat) (k : NestedKey), d.dat n = true → nk d = some k → k.depth ≤ n
  | .non, n, _, _, h => by cases h; exact Nat.zero_le _
  | .bl _, n, _, _, h => by cases h; exact Nat.zero_le _
  | .int _, n, _, _, h => by cases h; exact Nat.zero_le _
  | .str _, n, _, _, h => by cases h; exact Nat.zero_le _
  | .tup xs, n, _, hd, h => by
    simp only [nk, Option.map_eq_some_iff] at h
    obtain ⟨x, hx, rfl⟩ := h
    unfold D.dat at hd
    cases n with
    | zero => cases hd
    | succ n =>
      have := nks_dep xs n x hd hx
      show NestedKey.depthAll x + 1 ≤ n + 1
      omega
  | .lst _, _, _, _, h => by cases h
  | .dct _, _, _, _, h => by cases h
  | .ins _ _, _, _, _, h => by cases h
  | .loc _, _, _, _, h => by cases h
  | .clo _, _, _, _, h => by cases h
  | .ro _, _, _, _, h => by cases h
theorem nks_dep : ∀ (d : List D) (n : Nat) (k : List NestedKey), D.dats n d = true → nks d = some k → NestedKey.depthAll k ≤ n
  | [], n, _, _, h => by cases h; exact Nat.zero_le _
  | x :: xs, n, _, hd, h => by
    unfold nks at h
    split at h
    · rename_i a as e1 e2
      cases h
      unfold D.dats at hd
      rw [Bool.and_eq_true] at hd
      have := nk_dep x n a hd.1 e1
      have := nks_dep xs n as hd.2 e2
      show max a.depth (NestedKey.depthAll as) ≤ n
      omega
    · cases h
end
section
variable {X : Cx} {W : Wd} {pins : List (Addr × Obj)} {s : Shared} {σ : L2.St} {H : Hp} {B : Addr → Prop} {st : Store}
mutual
theorem nis (hK : X.K = W.K) (I : Inv X pins σ H s) : ∀ (d : D) {v : V} {u : Value} {k : NestedKey}, Rep W B st H v d → RelV v u → nk d = some k → NestedIs s.heap k u
  | .non, v, u, k, r, e, h => by cases r; cases h; cases (show u = Value.none from e); exact .none
  | .bl b, v, u, k, r, e, h => by cases r; cases h; cases (show u = Value.bool b from e); exact .bool rfl
  | .int i, v, u, k, r, e, h => by cases r; cases h; obtain ⟨t, rfl⟩ := e; exact .int _ _
  | .str x, v, u, k, r, e, h => by cases r; cases h; obtain ⟨t, rfl⟩ := e; exact .text _ _
  | .tup xs, v, u, k, r, e, h => by
    simp only [nk, Option.map_eq_some_iff] at h
    obtain ⟨x, hx, rfl⟩ := h
    cases r with
    | tup f l =>
      cases (show u = Value.ref _ from e)
      obtain ⟨its, rr, ⟨o, ho, hc, n, hd⟩, hz⟩ := I.tuple (by rw [hK]; exact f.sq)
      exact .tup ho hc hd (nisl hK I xs l rr hx)
  | .lst _, _, _, _, _, _, h => by cases h
  | .dct _, _, _, _, _, _, h => by cases h
  | .ins _ _, _, _, _, _, _, h => by cases h
  | .loc _, _, _, _, _, _, h => by cases h
  | .clo _, _, _, _, _, _, h => by cases h
  | .ro _, _, _, _, _, _, h => by cases h
theorem nisl (hK : X.K = W.K) (I : Inv X pins σ H s) : ∀ (d : List D) {v : List V} {u : List Value} {k : List NestedKey}, RepL W B st H v d → Vals v u → nks d = some k → NestedAll s.heap k u
  | [], v, u, k, r, e, h => by cases r; cases e; cases h; exact .nil
  | x :: xs, v, u, k, r, e, h => by
    unfold nks at h
    split at h
    · rename_i a as e1 e2
      cases h
      cases r with
      | cons r rs =>
        cases e with
        | cons e es => exact .cons (nis hK I x r e e1) (nisl hK I xs rs es e2)
    · cases h
end
end
/-- the entries, by keys -/
inductive KL (W : Wd) (B : Addr → Prop) (st : Store) (H : Hp) : List (NestedKey × Addr × Value) → List (D × D) → Prop where
  | nil : KL W B st H [] []
  | cons {b : Addr} {u : Value} {v : V} {xs : List D} {d : D} {ks : List NestedKey} {l : List (NestedKey × Addr × Value)} {kvs : List (D × D)} : nks xs = some ks → (D.tup xs).dat 8 = true → Rep W B st H (.ref b) (.tup xs) → RelV v u → Rep W B st H v d → KL W B st H l kvs →
      KL W B st H ((.tup ks, b, u) :: l) ((.tup xs, d) :: kvs)
def entW (w : World) (x : NestedKey × Addr × Value) : DictEntry := ⟨x.1.hash w, .ref x.2.1, x.2.2⟩
section
variable {W : Wd} {B : Addr → Prop} {st : Store} {H : Hp}
theorem RepK.kl : ∀ {es : List DictEntry} {kvs : List (D × D)}, RepK W B st H es kvs → ∃ l, KL W B st H l kvs ∧ es = l.map (entW W.w)
  | _, _, .nil => ⟨[], .nil, rfl⟩
  | _, _, .cons a b c d e t => by
    obtain ⟨l, h, rfl⟩ := RepK.kl t
    exact ⟨_, .cons a b c d e h, rfl⟩
theorem KL.rk : ∀ {l : List (NestedKey × Addr × Value)} {kvs : List (D × D)}, KL W B st H l kvs → RepK W B st H (l.map (entW W.w)) kvs
  | _, _, .nil => .nil
  | _, _, .cons a b c d e t => .cons a b c d e (KL.rk t)
theorem KL.keys : ∀ {l : List (NestedKey × Addr × Value)} {kvs : List (D × D)}, KL W B st H l kvs → (kvs.map fun p => nk p.1) = l.map fun x => some x.1
  | _, _, .nil => rfl
  | _, _, .cons a b c d e t => by
    simp only [List.map_cons, KL.keys t, nk, a, Option.map_some]
theorem KL.length : ∀ {l : List (NestedKey × Addr × Value)} {kvs : List (D × D)}, KL W B st H l kvs → l.length = kvs.length
  | _, _, .nil => rfl
  | _, _, .cons a b c d e t => congrArg (· + 1) (KL.length t)
theorem KL.look {y : D} {k : NestedKey} (hk : nk y = some k) : ∀ {l : List (NestedKey × Addr × Value)} {kvs : List (D × D)}, KL W B st H l kvs →
    (atKey l k = none ∧ G.look kvs y = none) ∨ ∃ p d v, atKey l k = some p ∧ G.look kvs y = some d ∧ RelV v p.2 ∧ Rep W B st H v d
  | _, _, .nil => .inl ⟨rfl, rfl⟩
  | _, _, .cons (xs := xs) (ks := ks) (l := l) (kvs := kvs) (b := b) (u := u) (v := v) (d := d) h1 h2 h3 h4 h5 t => by
    have e : (D.tup xs).eqv y = NestedKey.beq (.tup ks) k := eqv_nk _ _ _ _ (by simp [nk, h1]) hk
    have e2 := NestedKey.decide_eq (.tup ks) k
    unfold atKey G.look
    rw [List.find?_cons, List.find?_cons]
    simp only [e, e2]
    cases q : NestedKey.beq (.tup ks) k with
    | true => exact .inr ⟨_, _, v, rfl, rfl, h4, h5⟩
    | false => exact KL.look hk t
theorem KL.map {y : D} {k : NestedKey} {v : V} {u : Value} {d : D} (hk : nk y = some k) (rv : RelV v u) (rd : Rep W B st H v d) : ∀ {l : List (NestedKey × Addr × Value)} {kvs : List (D × D)}, KL W B st H l kvs →
    KL W B st H (l.map (putAt k u)) (kvs.map fun p => if p.1.eqv y then (p.1, d) else p)
  | _, _, .nil => .nil
  | _, _, .cons (xs := xs) (ks := ks) (l := l) (kvs := kvs) h1 h2 h3 h4 h5 t => by
    have e : (D.tup xs).eqv y = NestedKey.beq (.tup ks) k := eqv_nk _ _ _ _ (by simp [nk, h1]) hk
    have e2 := NestedKey.decide_eq (.tup ks) k
    rw [List.map_cons, List.map_cons]
    simp only [e]
    unfold putAt
    cases q : NestedKey.beq (.tup ks) k with
    | true =>
      rw [q] at e2
      have := of_decide_eq_true e2
      simp only [this, if_true]
      subst this
      exact .cons h1 h2 h3 rv rd (KL.map hk rv rd t)
    | false =>
      rw [q] at e2
      have := of_decide_eq_false e2
      simp only [this, if_false, Bool.false_eq_true]
      exact .cons h1 h2 h3 h4 h5 (KL.map hk rv rd t)
theorem KL.app : ∀ {l l' : List (NestedKey × Addr × Value)} {kvs kvs' : List (D × D)}, KL W B st H l kvs → KL W B st H l' kvs' → KL W B st H (l ++ l') (kvs ++ kvs')
  | _, _, _, _, .nil, h => h
  | _, _, _, _, .cons a b c d e t, h => .cons a b c d e (KL.app t h)
theorem KL.put {y : D} {k : NestedKey} {a : Addr} {v : V} {u : Value} {d : D} {l : List (NestedKey × Addr × Value)} {kvs : List (D × D)} (h : KL W B st H l kvs) (hk : nk y = some k) (hy : isKey y = true) (ry : Rep W B st H (.ref a) y) (rv : RelV v u) (rd : Rep W B st H v d) :
    KL W B st H (storedH l k a u) (G.put kvs y d) := by
  unfold storedH G.put
  rcases KL.look hk h with ⟨h1, h2⟩ | ⟨p, d', v', h1, h2, _⟩
  · rw [h1, h2]
    simp only [Option.isSome_none, Bool.false_eq_true, if_false]
    unfold isKey at hy
    split at hy
    · simp only [nk, Option.map_eq_some_iff] at hk
      obtain ⟨ks, h3, rfl⟩ := hk
      rw [Bool.and_eq_true] at hy
      exact h.app (.cons h3 hy.1 ry rv rd .nil)
    · cases hy
  · rw [h1, h2]
    simp only [Option.isSome_some, if_true]
    exact KL.map hk rv rd h
theorem key_of {y : D} (hy : isKey y = true) : ∃ k, nk y = some k ∧ k.depth ≤ 8 := by
  unfold isKey at hy
  split at hy
  · rw [Bool.and_eq_true] at hy
    obtain ⟨k, e⟩ := nk_some _ hy.2
    exact ⟨k, e, nk_dep _ 8 k hy.1 e⟩
  · cases hy
theorem key_ref {y : D} {v : V} (hy : isKey y = true) (r : Rep W B st H v y) : ∃ a, v = .ref a := by
  cases r <;> first | exact ⟨_, rfl⟩ | cases hy
theorem dct_of {v : V} {d : D} {kvs : List (D × D)} (h : RH W B st H) (r : Rep W B st H v d) (e : dctOf st d = some kvs) : ∃ a es ep, v = .ref a ∧ H a = some (.ext (RawD a es ep)) ∧ (a == sysModules) = false ∧ RepK W B st H es kvs ∧ (kvs.map fun p => nk p.1).Nodup := by
  cases r with
  | dct z f s l n => cases e; exact ⟨_, _, _, rfl, f, s, l, n⟩
  | loc a =>
    obtain ⟨ep, e⟩ := dctOf_loc e
    obtain ⟨es, f, s, l, n⟩ := h.ob _ _ e
    exact ⟨_, _, _, rfl, f, s, l, n⟩
  | _ => cases e
variable {X : Cx} {pins : List (Addr × Obj)} {s : Shared} {σ : L2.St}
theorem dat_nis (hK : X.K = W.K) (I : Inv X pins σ H s) {y : D} {a : Addr} {k : NestedKey} (hk : nk y = some k) (hd : k.depth ≤ 8) (r : Rep W B st H (.ref a) y) : (nestedKind X.prog X.w).is s.heap k a := ⟨nis hK I y r rfl hk, hd⟩
theorem KL.all (hK : X.K = W.K) (I : Inv X pins σ H s) : ∀ {l : List (NestedKey × Addr × Value)} {kvs : List (D × D)}, KL W B st H l kvs → ∀ x ∈ l, (nestedKind X.prog X.w).is s.heap x.1 x.2.1
  | _, _, .nil => fun _ h => by cases h
  | _, _, .cons (xs := xs) a b c d e t => fun x h => by
    rcases List.mem_cons.mp h with rfl | h
    · exact ⟨nis hK I _ c rfl (by simp [nk, a]), nk_dep _ 8 _ b (by simp [nk, a])⟩
    · exact KL.all hK I t x h
theorem nodup_some {α : Type} : ∀ {l : List (NestedKey × α)}, (l.map fun x => some x.1).Nodup → (l.map (·.1)).Nodup := by
  intro l h
  have e : (l.map fun x => some x.1) = (l.map (·.1)).map some := by rw [List.map_map]; rfl
  rw [e] at h
  exact List.Pairwise.of_map _ (fun a b hab hne => hab (congrArg some hne)) h
/-- the dict in the heap -/
theorem dict_raw (hK : X.K = W.K) (hw : X.w = W.w) (I : Inv X pins σ H s) {a : Addr} {l : List (NestedKey × Addr × Value)} {kvs : List (D × D)} {ep : Nat} (f : H a = some (.ext (RawD a (l.map (entW W.w)) ep))) (h : KL W B st H l kvs) (n : (kvs.map fun p => nk p.1).Nodup) : s.heap.DictOfH (nestedKind X.prog X.w) a l := by
  obtain ⟨⟨o, h1, h2, h3⟩, _⟩ := I.hok a _ f
  rw [KL.keys h] at n
  refine ⟨o, _, ep, h1, h2, h3, ?_, KL.all hK I h, nodup_some n⟩
  show l.map (entW W.w) = _
  rw [← hw]
  rfl
end
end G
/-! Dicts with nested keys: the rules. -/
namespace G
open PySem PySem.Spec PyProof.Rows L2
section
variable {X : Cx} {W : Wd} {pos : Pos}
theorem OpR.imp' {f : Value → Value → Sem Value} {r r' : R2} (h : OpR X f r) (i : ∀ x y H Q, r' x y H Q → r x y H Q) : OpR X f r' := fun pins s σ H x y v u Q I rx ry q => h pins s σ H x y v u Q I rx ry (i _ _ _ _ q)
theorem dkin {B : Addr → Prop} {st : Store} {H : Hp} {l : List (NestedKey × Addr × Value)} {kvs : List (D × D)} {y : D} {k : NestedKey} (h : KL W B st H l kvs) (hk : nk y = some k) : (valueAt (pairsH l) k).isSome = (G.look kvs y).isSome := by
  rw [valueAt_pairsH, Option.isSome_map]
  rcases KL.look hk h with ⟨h1, h2⟩ | ⟨p, d, v, h1, h2, _⟩ <;> rw [h1, h2] <;> rfl
theorem room9 (hu : X.A.units + 64 < cLine) : (nestedKind X.prog X.w).room X.A.in1 := by
  show X.A.units + 1 + 8 < cLine
  omega
theorem in_dct (hK : X.K = W.K) (hw : X.w = W.w) (hu : X.A.units + 64 < cLine) : OpR X (compareOp .In) (rC W fun st a b k => ∃ kvs, dctOf st b = some kvs ∧ isKey a = true ∧ k (G.look kvs a).isSome) := by
  intro pins s σ H x y v u Q I rx ry ⟨B, st, d1, d2, P, h, r1, r2, ⟨kvs, e, hy, k⟩, q⟩
  obtain ⟨a, rfl⟩ := key_ref hy r1
  obtain ⟨kk, hk, hd⟩ := key_of hy
  obtain ⟨b, es, ep, rfl, f, hs, l, n⟩ := dct_of h r2 e
  cases (show v = Value.ref a from rx)
  cases (show u = Value.ref b from ry)
  obtain ⟨l', hl, rfl⟩ := l.kl
  refine in_keyed (knd := nestedKind X.prog X.w) (room9 hu) (dat_nis hK I hk hd r1) hs ⟨l', dict_raw hK hw I f hl n, rfl⟩ ?_
  rw [dkin hl hk]
  exact ⟨.bl _, H, I.tok _, rfl, q _ k⟩
theorem notin_dct (hK : X.K = W.K) (hw : X.w = W.w) (hu : X.A.units + 64 < cLine) : OpR X (compareOp .NotIn) (rC W fun st a b k => ∃ kvs, dctOf st b = some kvs ∧ isKey a = true ∧ k (!(G.look kvs a).isSome)) := by
  intro pins s σ H x y v u Q I rx ry ⟨B, st, d1, d2, P, h, r1, r2, ⟨kvs, e, hy, k⟩, q⟩
  obtain ⟨a, rfl⟩ := key_ref hy r1
  obtain ⟨kk, hk, hd⟩ := key_of hy
  obtain ⟨b, es, ep, rfl, f, hs, l, n⟩ := dct_of h r2 e
  cases (show v = Value.ref a from rx)
  cases (show u = Value.ref b from ry)
  obtain ⟨l', hl, rfl⟩ := l.kl
  refine notIn_keyed (knd := nestedKind X.prog X.w) (room9 hu) (dat_nis hK I hk hd r1) hs ⟨l', dict_raw hK hw I f hl n, rfl⟩ ?_
  rw [dkin hl hk]
  exact ⟨.bl _, H, I.tok _, rfl, q _ k⟩
theorem ix_dct (hK : X.K = W.K) (hw : X.w = W.w) (hu : X.A.units + 64 < cLine) : IxR X (r2 W fun st a i k => ∃ kvs d, dctOf st a = some kvs ∧ isKey i = true ∧ G.look kvs i = some d ∧ k d) := by
  intro value slice pins s σ H x y v u Q I rx ry ⟨B, st, d1, d2, P, h, r1, r2, ⟨kvs, d, e, hy, hlk, k⟩, q⟩ hs'
  obtain ⟨a, rfl⟩ := key_ref hy r2
  obtain ⟨kk, hk, hd⟩ := key_of hy
  obtain ⟨b, es, ep, rfl, f, hs, l, n⟩ := dct_of h r1 e
  cases (show u = Value.ref a from ry)
  cases (show v = Value.ref b from rx)
  obtain ⟨l', hl, rfl⟩ := l.kl
  have hm := dict_raw hK hw I f hl n
  rcases KL.look hk hl with ⟨h1, h2⟩ | ⟨p, d', v', h1, h2, h3, h4⟩
  · rw [h2] at hlk; cases hlk
  · rw [h2] at hlk; cases hlk
    refine tail_any (ops := [.ref b, .ref a]) hm.typeIs (F.slot_dict_getitem.lookup) ?_ hs'
    exact wpAny_getItem_heap (knd := nestedKind X.prog X.w) (room9 hu) (dat_nis hK I hk hd r2) hm h1 ⟨v', H, I.tok _, h3, q _ _ _ k h4 (Same.refl _)⟩
theorem len_dct (hK : X.K = W.K) (hw : X.w = W.w) : CallR X (.builtin "len") (rB W fun st a k => ∃ kvs, dctOf st a = some kvs ∧ kvs.length ≤ sizeLine ∧ k (.int kvs.length)) := by
  intro pins s σ H xs us Q I r ⟨B, st, v, d, P, e0, h, r1, ⟨kvs, e, hz, k⟩, q⟩
  subst e0
  obtain ⟨u, rfl, rx⟩ := vals1 r
  obtain ⟨b, es, ep, rfl, f, hs, l, n⟩ := dct_of h r1 e
  cases (show u = Value.ref b from rx)
  obtain ⟨l', hl, rfl⟩ := l.kl
  have hm := dict_raw hK hw I f hl n
  refine call_len_dictH (knd := nestedKind X.prog X.w) hs hm (by rw [hl.length]; rw [sizeLine_eq] at hz; omega) ?_
  rw [hl.length]
  exact ⟨.int _, H, I.tok _, ⟨_, rfl⟩, q _ _ _ k (.int _) (Same.refl _)⟩
/-- the dict in the heap is told -/
theorem ext_ok {H : Hp} {h : Heap} {a : Addr} {l : List (NestedKey × Addr × Value)} (hw : X.w = W.w) (hm : h.DictOfH (nestedKind X.prog X.w) a l) : ∃ ep, ObjOk X.prog X.w H h a (.ext (RawD a (l.map (entW W.w)) ep)) := by
  obtain ⟨o, es, ep, h1, h2, h3, h4, h5, h6⟩ := hm
  refine ⟨ep, ⟨o, h1, h2, ?_⟩, ⟨o, h1⟩, fun h1' h2' ⟨o', z1, z2, z3⟩ k => ⟨o', k _ z1, z2, z3⟩⟩
  rw [h3, ← hw]
  have : es = (l.map (entW X.w)).toArray := by
    apply Array.toList_inj.mp
    rw [h4]
    rfl
  rw [this]
/-- keys stay apart -/
theorem nodup_of {H : Hp} {B : Addr → Prop} {st : Store} {h : Heap} {a : Addr} {l : List (NestedKey × Addr × Value)} {kvs : List (D × D)} (hl : KL W B st H l kvs) (hm : h.DictOfH (nestedKind X.prog X.w) a l) : (kvs.map fun p => nk p.1).Nodup := by
  rw [hl.keys]
  obtain ⟨_, _, _, _, _, _, _, _, hn⟩ := hm
  have e : (l.map fun x => some x.1) = (l.map (·.1)).map some := by rw [List.map_map]; rfl
  rw [e]
  exact hn.map some fun a b hab => fun z => hab (Option.some.inj z)
/-- a dict of the store, written -/
theorem wr_dct (hw : X.w = W.w) {pins : List (Addr × Obj)} {s : Shared} {σ : L2.St} {H : Hp} {B : Addr → Prop} {st : Store} {a : Addr} {kvs kvs' : List (D × D)} {ep : Nat} {l' : List (NestedKey × Addr × Value)} {h' : Heap} {t' : Nat} (I : Inv X pins σ H s) (h : RH W B st H) (e : st a = some (.dct kvs ep))
    (hl : KL W B st H l' kvs') (hm : h'.DictOfH (nestedKind X.prog X.w) a l') (sb : Heap.SameBut a s.heap h') :
    ∃ ep' H', Inv X pins σ H' { s with heap := h', toks := t' } ∧ RH W B (st.set a (.dct kvs' ep')) H' ∧ Grow st H (st.set a (.dct kvs' ep')) H' := by
  obtain ⟨es, f, hs, l, n⟩ := h.ob _ _ e
  obtain ⟨ep', ok⟩ := ext_ok (W := W) (H := upd H a (.ext (RawD a (l'.map (entW W.w)) 0))) hw hm
  obtain ⟨o2, g2⟩ := h.write (u := .ext (RawD a (l'.map (entW W.w)) ep')) (o' := .dct kvs' ep') e fun g => ⟨_, upd_same, hs, hl.rk.grow g, nodup_of hl hm⟩
  refine ⟨ep', _, I.write (x := a) (e := a) (by rw [f]; trivial) (.inl rfl) (fun c w hc z => (sb.2 c hc).trans z) ?_ ?_, o2, g2⟩
  · obtain ⟨o, _, _, ho, _⟩ := hm
    exact ⟨o, ho⟩
  · obtain ⟨⟨o, h1, h2, h3⟩, h4, h5⟩ := ok
    exact ⟨⟨o, h1, h2, h3⟩, h4, h5⟩
theorem set_dct (hK : X.K = W.K) (hw : X.w = W.w) (hu : X.A.units + 64 < cLine) : PSet X (fun o i v H Q => ∃ (B : Addr → Prop) (st : Store) (a : Addr) (kvs : List (D × D)) (ep : Nat) (y d : D), o = .ref a ∧ RH W B st H ∧ st a = some (.dct kvs ep) ∧ Rep W B st H i y ∧ Rep W B st H v d ∧ isKey y = true ∧ kvs.length < sizeLine ∧
    ∀ ep' H', RH W B (st.set a (.dct (G.put kvs y d) ep')) H' → Grow st H (st.set a (.dct (G.put kvs y d) ep')) H' → Q H') := by
  intro pins s σ H o i v ov iv u Q I ro ri rv ⟨B, st, a, kvs, ep, y, d, e1, h, e, ry, rd, hy, hz, q⟩
  subst e1
  obtain ⟨b, rfl⟩ := key_ref hy ry
  obtain ⟨kk, hk, hd⟩ := key_of hy
  cases (show ov = Value.ref a from ro)
  cases (show iv = Value.ref b from ri)
  obtain ⟨es, f, hs, l, n⟩ := h.ob _ _ e
  obtain ⟨l', hl, rfl⟩ := l.kl
  have hm := dict_raw hK hw I f hl n
  have hp := hl.put (a := b) hk hy ry rv rd
  refine wpAny_setItem_heap (knd := nestedKind X.prog X.w) (room9 hu) (dat_nis hK I hk hd ry) hm (fun h' hm' sb => ?_) (by rw [hl.length]; omega)
  obtain ⟨ep', H', I', o2, g2⟩ := wr_dct (t' := s.toks + (nestedKind X.prog X.w).draws kk) hw I h e hp hm' sb
  exact ⟨_, I', q _ _ o2 g2⟩
end
end G
/-! The checker is right: expressions. -/
namespace G
open PySem PySem.Spec PyProof.Rows L2 C8
def dictLess : Prop := True
section
variable {Γ : Ctx} {W : Wd} {κ : Kx}
theorem opB_of {o : Operator} (h : opB o = true) : o = .Add ∨ o = .Sub ∨ o = .Mult ∨ o = .Mod ∨ o = .FloorDiv ∨ o = .Pow := by
  cases o <;> simp [opB] at h ⊢
theorem cmp_all {X : Cx} (hK : X.K = W.K) (hw : X.w = W.w) (hu : X.A.units + 64 < cLine) (o : CmpOp) : OpR X (compareOp o) (rC W fun st => cmpR st o) := by
  cases o
  · exact cmp_eq hK hu
  · exact cmp_ne hK hu
  · exact cmp_lt hK hu
  · exact cmp_le
  · exact cmp_gt hK hu
  · exact cmp_ge hK hu
  · exact cmp_is
  · exact cmp_isnot
  · refine OpR.imp' ((in_seqs hK hu).or ((in_text (W := W)).or (in_dct hK hw hu))) fun x y H Q ⟨B, st, d1, d2, P, h, r1, r2, k, q⟩ => ?_
    by_cases hs : ∃ z, d2 = .str z
    · obtain ⟨z, rfl⟩ := hs
      obtain ⟨x', rfl, k⟩ := k
      exact .inr (.inl ⟨B, st, _, _, P, h, r1, r2, ⟨_, _, rfl, rfl, k⟩, q⟩)
    · have k' : (∃ xs, seqOf st d2 = some xs ∧ d1.dat 60 ∧ D.dats 60 xs ∧ P (xs.any fun x => x.eqv d1)) ∨ (∃ kvs, dctOf st d2 = some kvs ∧ isKey d1 ∧ P (look kvs d1).isSome) := by
        cases d2 <;> first | exact k | exact (hs ⟨_, rfl⟩).elim
      rcases k' with k | k
      · exact .inl ⟨B, st, _, _, P, h, r1, r2, k, q⟩
      · exact .inr (.inr ⟨B, st, _, _, P, h, r1, r2, k, q⟩)
  · refine OpR.imp' ((notin_seqs hK hu).or ((notin_text (W := W)).or (notin_dct hK hw hu))) fun x y H Q ⟨B, st, d1, d2, P, h, r1, r2, k, q⟩ => ?_
    by_cases hs : ∃ z, d2 = .str z
    · obtain ⟨z, rfl⟩ := hs
      obtain ⟨x', rfl, k⟩ := k
      exact .inr (.inl ⟨B, st, _, _, P, h, r1, r2, ⟨_, _, rfl, rfl, k⟩, q⟩)
    · have k' : (∃ xs, seqOf st d2 = some xs ∧ d1.dat 60 ∧ D.dats 60 xs ∧ P (!xs.any fun x => x.eqv d1)) ∨ (∃ kvs, dctOf st d2 = some kvs ∧ isKey d1 ∧ P (!(look kvs d1).isSome)) := by
        cases d2 <;> first | exact k | exact (hs ⟨_, rfl⟩).elim
      rcases k' with k | k
      · exact .inl ⟨B, st, _, _, P, h, r1, r2, k, q⟩
      · exact .inr (.inr ⟨B, st, _, _, P, h, r1, r2, k, q⟩)
theorem bi_lenA {X : Cx} (hK : X.K = W.K) (hw : X.w = W.w) : CallR X (.builtin "len") (rB W fun st => biR st .len) := by
  refine CallR.imp ((bi_len1 hK).or (len_dct hK hw)) fun xs H Q ⟨B, st, v, d, P, e0, h, r, k, q⟩ => ?_
  rcases k with k | k | k
  · exact .inl ⟨B, st, v, d, P, e0, h, r, .inl k, q⟩
  · exact .inl ⟨B, st, v, d, P, e0, h, r, .inr k, q⟩
  · exact .inr ⟨B, st, v, d, P, e0, h, r, k, q⟩
theorem ix_all {X : Cx} (hK : X.K = W.K) (hw : X.w = W.w) (hu : X.A.units + 64 < cLine) : IxR X (r2 W idxR) := by
  intro value slice pins s σ H x y v u Q I rx ry ⟨B, st, d1, d2, P, h, r1, r2, k, q⟩ hs
  rcases k with k | k
  · exact ix_seqs hK value slice pins s σ H x y v u Q I rx ry ⟨B, st, d1, d2, P, h, r1, r2, k, q⟩ hs
  · exact ix_dct hK hw hu value slice pins s σ H x y v u Q I rx ry ⟨B, st, d1, d2, P, h, r1, r2, k, q⟩ hs
theorem bn_mem {x : Str} (h : x ∈ bnames) : (x == ("__debug__" : Str)) = false ∧ x ≠ "__name__" := by
  have : ∀ x ∈ bnames, (x == ("__debug__" : Str)) = false ∧ x ≠ "__name__" := by decide +kernel
  exact this x h
theorem star1 {e : Expr} {env : PySem.Env} (h : plB e = true) : starEach [e] env = [(false, eval e env)] := star_pl h
theorem star2 {e f : Expr} {env : PySem.Env} (h : plB e = true) (h2 : plB f = true) : starEach [e, f] env = [(false, eval e env), (false, eval f env)] := by
  rw [star_pl h, star1 h2]
/-- all of plain arguments -/
theorem pl_star : ∀ (es : Es) {sc : Scope} (l : List Expr), chEs κ sc es l = true → ∀ env, starEach l env = l.map fun e => (false, eval e env)
  | .nil, sc, l, h => by
    intro env
    unfold chEs at h
    split at h
    · rfl
    · cases h
  | .cons e es, sc, l, h => by
    intro env
    unfold chEs at h
    split at h
    · rename_i x xs
      simp only [Bool.and_eq_true] at h
      rw [star_pl h.1.1, pl_star es xs h.2 env]; rfl
    · cases h
theorem backTo_any {pos : Pos} : ∀ {l : List Expr} {env : PySem.Env}, ((backTo pos (l.map fun e => (false, eval e env))).any fun x => x.1) = false
  | [], _ => rfl
  | e :: l, env => by
    have := backTo_any (pos := pos) (l := l) (env := env)
    unfold backTo at this ⊢
    simp only [List.map_cons, List.any_cons, this, Bool.or_false]
theorem form_ok {pos : Pos} {l : List Expr} {env : PySem.Env} (h : l.length < 29) : methodCallForm l.length (backTo pos (l.map fun e => (false, eval e env))) (backToKw pos (keywordEach [] env)) = true := by
  unfold methodCallForm
  have e : (backTo pos (l.map fun e => (false, eval e env))).all (fun x => !x.1) = true := by
    rw [List.all_eq_true]
    intro x hx
    unfold backTo at hx
    simp only [List.map_map, List.mem_map, Function.comp] at hx
    obtain ⟨y, _, rfl⟩ := hx
    rfl
  rw [e]
  have e2 : (backToKw pos (keywordEach [] env)) = [] := by unfold backToKw keywordEach; rfl
  rw [e2]
  simp only [List.all_nil, List.isEmpty_nil, if_true, Bool.and_true, Bool.true_and, decide_eq_true_eq]
  omega
end
end G
/-! Freezing. -/
namespace G
open PySem PySem.Spec PyProof.Rows L2
/-! ### freezing -/
section
variable {W : Wd} {B : Addr → Prop} {st st' : Store} {H : Hp}
mutual
theorem Fz.rep (h : RH W B st H) (l : ∀ a o, st' a = some o → st a = some o) : ∀ {x y : D}, Fz st st' x y → ∀ {v : V}, Rep W B st H v x → Rep W B st' H v y
  | _, _, .refl d, _, r => r.grow (h.less l).2
  | _, _, .tup z, _, .tup f r => .tup (f.grow (h.less l).2.b) (Fzs.rep h l z r)
  | _, _, .lst z, _, .lst s f r => .lst ((s.grow (h.less l).2.b f).1) f (Fzs.rep h l z r)
  | _, _, .loc e n z, _, r => by
    cases r
    obtain ⟨vs, f, r⟩ := h.ob _ _ e
    refine .lst ⟨n, fun hb => ?_⟩ f (Fzs.rep h l z r)
    rw [(h.hid _ hb).1] at e; cases e
  | _, _, .dct e n z, _, r => by
    cases r
    obtain ⟨es, f, s, r, m⟩ := h.ob _ _ e
    refine .dct ⟨n, fun hb => ?_⟩ f s (Fzk.rep h l z r) (by rw [← Fzk.keys z]; exact m)
    rw [(h.hid _ hb).1] at e; cases e
  | _, _, .ins e n z, _, r => by
    cases r
    obtain ⟨C, dx, gs, f, s, r⟩ := h.ob _ _ e
    refine .ins ⟨n, fun hb => ?_⟩ f s (Fzf.rep h l z r)
    rw [(h.hid _ hb).1] at e; cases e
theorem Fzs.rep (h : RH W B st H) (l : ∀ a o, st' a = some o → st a = some o) : ∀ {x y : List D}, Fzs st st' x y → ∀ {v : List V}, RepL W B st H v x → RepL W B st' H v y
  | _, _, .nil, _, .nil => .nil
  | _, _, .cons z zs, _, .cons r rs => .cons (Fz.rep h l z r) (Fzs.rep h l zs rs)
theorem Fzk.rep (h : RH W B st H) (l : ∀ a o, st' a = some o → st a = some o) : ∀ {x y : List (D × D)}, Fzk st st' x y → ∀ {v : List DictEntry}, RepK W B st H v x → RepK W B st' H v y
  | _, _, .nil, _, .nil => .nil
  | _, _, .cons z zs, _, .cons k d r q s rs => .cons k d (r.grow (h.less l).2) q (Fz.rep h l z s) (Fzk.rep h l zs rs)
theorem Fzk.keys : ∀ {x y : List (D × D)}, Fzk st st' x y → (x.map fun p => nk p.1) = (y.map fun p => nk p.1)
  | _, _, .nil => rfl
  | _, _, .cons z zs => by simp [Fzk.keys zs]
theorem Fzf.rep (h : RH W B st H) (l : ∀ a o, st' a = some o → st a = some o) : ∀ {x y : List (Str × D)}, Fzf st st' x y → ∀ {v : List (Str × V)}, RepF W B st H v x → RepF W B st' H v y
  | _, _, .nil, _, .nil => .nil
  | _, _, .cons z zs, _, .cons r rs => .cons (Fz.rep h l z r) (Fzf.rep h l zs rs)
end
theorem s_frz {X : Cx} {e : Expr} {m : M} (h : PE X e (LE W m)) : PE X e (LE W fun ρ st Q => m ρ st fun x st1 => ∃ st2 y, (∀ a o, st2 a = some o → st1 a = some o) ∧ Fz st1 st2 x y ∧ Q y st2) := by
  refine h.mono fun σ H Q ⟨B, ρ, st, P, r, h, q⟩ => ⟨B, ρ, st, _, r, h, fun d st1 v H1 ⟨st2, y, l, z, h1⟩ r1 o1 g1 => ?_⟩
  exact q _ _ _ _ h1 (z.rep o1 l r1) (o1.less l).1 (g1.trans (o1.less l).2)
end
end G
/-! Dicts with nested keys: their methods, displays. -/
namespace G
open PySem PySem.Spec PyProof.Rows L2
section
variable {X : Cx} {W : Wd} {pos apos : Pos}
/-- what is known behind an expression -/
def Bh (W : Wd) (B : Addr → Prop) (st : Store) (H : Hp) (P : Post) : VK := fun v H1 => ∃ d st1, P d st1 ∧ Rep W B st1 H1 v d ∧ RH W B st1 H1 ∧ Grow st H st1 H1
theorem le_go {m : M} {B : Addr → Prop} {ρ : Env} {st : Store} {σ : L2.St} {H : Hp} {P : Post} (r : R W B ρ st σ H) (h : m ρ st P) : LE W m σ H (Bh W B st H P) :=
  ⟨B, ρ, st, P, r, h, fun d st1 v H1 p rp o g => ⟨d, st1, p, rp, o, g⟩⟩
/-- a dict, as the interpreter sees it -/
theorem dct_at (hK : X.K = W.K) (hw : X.w = W.w) {pins : List (Addr × Obj)} {σ : L2.St} {H : Hp} {s : Shared} {B : Addr → Prop} {st : Store} {v : V} {u : Value} {d : D} {kvs : List (D × D)} (I : Inv X pins σ H s) (h : RH W B st H) (r : Rep W B st H v d) (e : dctOf st d = some kvs) (ru : RelV v u) :
    ∃ a l ep, v = .ref a ∧ u = .ref a ∧ H a = some (.ext (RawD a (l.map (entW W.w)) ep)) ∧ (a == sysModules) = false ∧ KL W B st H l kvs ∧ s.heap.DictOfH (nestedKind X.prog X.w) a l ∧ s.TypeIs (.ref a) "dict" ∧ (∀ b, Value.ref a = .ref b → ∃ ob, s.heap.get? b = some ob ∧ ob.dict = none) := by
  obtain ⟨a, es, ep, rfl, f, hs, l, n⟩ := dct_of h r e
  obtain ⟨l', hl, rfl⟩ := l.kl
  cases (show u = Value.ref a from ru)
  have hm := dict_raw hK hw I f hl n
  refine ⟨a, l', ep, rfl, rfl, f, hs, hl, hm, hm.typeIs, fun b q => ?_⟩
  cases q
  obtain ⟨ob, _, _, h1, h2, _⟩ := hm
  exact ⟨ob, h1, h2.2.1⟩
theorem m2_of {o e f : Expr} {m : Str} (hb : ∀ w, attributeBase o m X.env w = w) (hl : (apos.endLine == pos.line) = true) (hs : starEach [e, f] X.env = [(false, eval e X.env), (false, eval f X.env)]) : M2 X o m apos e f pos :=
  ⟨hb _, few2 hs, hl, by rw [hs]; rfl⟩
theorem m1_of {o e : Expr} {m : Str} (hb : ∀ w, attributeBase o m X.env w = w) (hl : (apos.endLine == pos.line) = true) (hs : starEach [e] X.env = [(false, eval e X.env)]) : M1 X o m apos e pos :=
  ⟨hb _, few1 hs, hl, by rw [hs]; rfl⟩
/-- d.get(k, x) -/
theorem s_getd {o e f : Expr} {mo me mf : M} (hK : X.K = W.K) (hw : X.w = W.w) (hu : X.A.units + 64 < cLine) (ho : PE X o (LE W mo)) (he : PE X e (LE W me)) (hf : PE X f (LE W mf)) (hb : ∀ w, attributeBase o "get" X.env w = w) (hl : (apos.endLine == pos.line) = true) (hs : starEach [e, f] X.env = [(false, eval e X.env), (false, eval f X.env)]) :
    PE X (.Call (.Attribute o "get" apos) [e, f] [] pos) (LE W fun ρ st Q => mo ρ st fun x st1 => ∃ zs, dctOf st1 x = some zs ∧ me ρ st1 fun y st2 => mf ρ st2 fun d st3 => ∃ kvs, dctOf st3 x = some kvs ∧ isKey y ∧ Q ((look kvs y).getD d) st3) := by
  have m := m2_of (m := "get") hb hl hs
  refine ⟨fun pins s σ H Q I ⟨B, ρ, st, P, r, h, q⟩ => ?_⟩
  refine wpAny_Call_method m.base m.few m.line PySem.F.plainAttrs_dict PySem.F.slot_dict_get PySem.F.type_dict_get (thn (ho.run pins s σ H _ I (le_go r h)) fun u s1 ⟨v, H1, I1, rx, x, st1, ⟨zs, e1, h1⟩, r1, o1, g1⟩ => ?_)
  obtain ⟨a, l, ep, rfl, rfl, -, -, -, -, t1, t2⟩ := dct_at hK hw I1 o1 r1 e1 rx
  refine ⟨t1, t2, ?_⟩
  rw [m.trees]
  refine Calls.callWith_builtin rfl (Calls.evalArgs_plain (Calls.spliced_cons (thn (he.run pins s1 σ H1 _ I1 (le_go (r.step g1 o1) h1)) fun iv s2 ⟨v2, H2, I2, ry, y, st2, h2, r2, o2, g2⟩ =>
    Calls.spliced_cons (thn (hf.run pins s2 σ H2 _ I2 (le_go (r.step (g1.trans g2) o2) h2)) fun fv s3 ⟨v3, H3, I3, rz, d, st3, ⟨kvs, e3, hy, h3⟩, r3, o3, g3⟩ => Calls.spliced_nil ?_))))
  have r1' := (r1.grow g2).grow g3
  have r2' := r2.grow g3
  obtain ⟨a', l, ep, e4, -, f, hsm, hkl, hm, -, -⟩ := dct_at (u := .ref a) hK hw I3 o3 r1' e3 rfl
  cases e4
  obtain ⟨b, rfl⟩ := key_ref hy r2
  obtain ⟨kk, hk, hd⟩ := key_of hy
  cases (show iv = Value.ref b from ry)
  refine call_meetsIn PySem.F.slot_dict_get hm.typeIs PySem.F.entry_dict_get (PySem.F.args_dict_get_3 _ _ _) (meetsH_dict_get_default (nestedKind X.prog X.w) a b hsm fv) ⟨room9 hu, kk, l, dat_nis hK I3 hk hd r2', hm, ?_⟩
  have gg := g1.trans (g2.trans g3)
  rcases KL.look hk hkl with ⟨h4, h5⟩ | ⟨p, d', v', h4, h5, h6, h7⟩
  · rw [h5] at h3
    rw [h4]
    exact ⟨_, _, I3.tok _, rz, q _ _ _ _ h3 r3 o3 gg⟩
  · rw [h5] at h3
    rw [h4]
    exact ⟨_, _, I3.tok _, h6, q _ _ _ _ h3 h7 o3 gg⟩
end
end G
/-! Sorting, greatest and least ones. -/
namespace G
open PySem PySem.Spec PyProof.Rows L2 PySem.W PySem.Calls
/-! ### tuples the first of which is empty -/
section
variable {prog : Program} {w : World} {A : Around} {E : Value → Shared → Prop} {s : Shared}
theorem mapM_val {M : Model} {α β : Type} {f : α → Sem β} {g : α → β} : ∀ (l : List α) {Q : List β → Shared → Prop}, (∀ v ∈ l, ∀ (Q' : β → Shared → Prop), Q' (g v) s → wpAny M A (f v) Q' E s) → Q (l.map g) s → wpAny M A (l.mapM f) Q E s
  | [], _, _, h => by rw [List.mapM_nil]; exact wpAny_pure h
  | x :: l, Q, hf, h => by
    rw [List.mapM_cons]
    exact wpAny_bind (hf x (.head _) _ (wpAny_bind (mapM_val l (Q := fun bs s' => wpAny M A (pure (g x :: bs)) Q E s') (fun v hv => hf v (.tail _ hv)) (wpAny_pure h))))
/-- one tuple of data against another, asked of its own < -/
theorem tupLt {xs ys : List PyData} {a b : Value} {as bs : List Addr} {Q : Bool → Shared → Prop} (ra : Reads s.heap a (.tuple xs) as) (rb : Reads s.heap b (.tuple ys) bs) (hal : alikeAll xs ys = true)
    (hu : A.units + min (PyData.tuple xs).depth (PyData.tuple ys).depth < cLine) (hq : Q (dataLt (.tuple xs) (.tuple ys)) s) : wpAny (model prog w) A (oneLt' true a b) Q E s := by
  cases ra with
  | @tuple l o vs n _ as₁ h1 h2 h3 h4 =>
    cases rb with
    | @tuple l' o' vs' n' _ bs₁ k1 k2 k3 k4 =>
      have n1 : vs.size = xs.length := by simpa using SeqAt.ReadsAll.length _ _ _ h4
      have n2 : vs'.size = ys.length := by simpa using SeqAt.ReadsAll.length _ _ _ k4
      have hq : Q (PyProof.Rows.lexLt itemOrd (keyToksAll xs) (keyToksAll ys)) s := by rw [← dataLt_tuple]; exact hq
      rw [← firstLt_toks xs ys hal, ← n1, ← n2] at hq
      rw [oneLt'_eq]
      simp only [if_true]
      refine wpAny_bind (wpAny_cRoomFor (SeqAt.room_here hu) ?_)
      obtain ⟨cls, dd, data, sl⟩ := o
      obtain ⟨cls2, dd2, data2, sl2⟩ := o'
      simp only at h2 h3 k2 k3
      subst h2 h3 k2 k3
      refine wpAny_bind (wpAny_callSpecialIfBound?_slot (T := "tuple") ⟨_, h1, rfl⟩ F.slot_tuple_lt (call_meets F.slot_tuple_lt ⟨_, h1, rfl⟩ F.entry_tuple_lt (F.args_tuple_lt_2 _ _)
        (SeqAt.tuple_ltAt l l' vs vs' n n' dd dd2 sl sl2 (SeqAt.pairEq xs ys) (fun j => dataLt (xs.getD j .none) (ys.getD j .none))) ⟨h1, k1, fun j j1 j2 => ?_, fun j j1 j2 hj => ?_, ?_⟩))
      · have := eqAt_alikeAll xs ys A.in1 s vs.toList vs'.toList _ _ h4 k4 hal (SeqAt.room_in hu) j (by simpa using j1) (by simpa using j2)
        simpa using this
      · have := rcLt_alikeAll xs ys A.in1 s vs.toList vs'.toList _ _ h4 k4 hal (SeqAt.room_in hu) j (by simpa using j1) (by simpa using j2) hj
        simpa using this
      · exact wpAny_truthy_bool hq
theorem isSome_first {es : List PyData} {vs : List Value} (e : EachIs (fun v d => ∃ as, Reads s.heap v d as) vs es) (ht : ∀ d ∈ es, ∃ r, d = .tuple r) : ∃ g : Value → Option Value, (∀ v ∈ vs, ∀ (M : Model) (A : Around) (E : Value → Shared → Prop) (Q : Option Value → Shared → Prop), Q (g v) s → wpAny M A (firstOfTuple' v) Q E s) ∧
    ∀ v as, Reads s.heap v (.tuple []) as → g v = none := by
  refine ⟨fun v => match v with | .ref a => (match s.heap.get? a with | some ⟨_, _, .seq xs _, _⟩ => xs[0]? | _ => none) | _ => none, fun v hv M A E Q hq => ?_, fun v as r => ?_⟩
  · obtain ⟨d, hd, as, r⟩ := e.left v hv
    obtain ⟨xs, rfl⟩ := ht d hd
    cases r with
    | @tuple l o vs n _ as₁ h1 h2 h3 h4 =>
      obtain ⟨cls, dd, data, sl⟩ := o
      simp only at h2 h3
      subst h2 h3
      rw [kas_first_eq]
      refine wpAny_bind (Looks.here (show Looks M s.heap (typeOf (.ref l)) (.type "tuple") from (Looks.ld h1).andThen .now) ?_)
      rw [if_neg (by decide)]
      refine wpAny_bind (listItems_at h1 rfl (wpAny_pure ?_))
      simp only [h1] at hq
      exact hq
  · cases r with
    | @tuple l o vs n _ as₁ h1 h2 h3 h4 =>
      obtain ⟨cls, dd, data, sl⟩ := o
      simp only at h2 h3
      subst h2 h3
      have n1 : vs.size = 0 := by simpa using SeqAt.ReadsAll.length _ _ _ h4
      simp only [h1]
      exact Array.getElem?_eq_none (by omega)
/-- tuples the first of which is empty can be sorted -/
theorem sortsFirst {vs : List Value} {es : List PyData} (e : EachIs (fun v d => ∃ as, Reads s.heap v d as) vs (.tuple [] :: es)) (hal : AllAlike (.tuple [] :: es)) (ht : ∀ d ∈ PyData.tuple [] :: es, ∃ r, d = .tuple r) (hu : ∀ d, d ∈ PyData.tuple [] :: es → A.units + d.depth < cLine) :
    SortsAt prog w A s (dataKind s.heap (.tuple [] :: es)) vs := by
  refine ⟨fun v hv => ?_, oneType', ?_, fun h2 E Q hq => ?_⟩
  · obtain ⟨d, hd, as, r⟩ := e.left v hv
    exact ⟨_, dataKind_some hal hd r⟩
  · intro E x y a b Q ha hb hq
    obtain ⟨d, as, hd, ra, rfl⟩ := dataKind_inv ha
    obtain ⟨d', as', hd', rb, rfl⟩ := dataKind_inv hb
    obtain ⟨xs, rfl⟩ := ht d hd
    obtain ⟨ys, rfl⟩ := ht d' hd'
    rw [keyLt'_oneType]
    exact tupLt ra rb (by simpa [alike] using hal _ hd _ hd') (Nat.lt_of_le_of_lt (Nat.add_le_add_left (Nat.min_le_left _ _) _) (hu _ hd)) hq
  · obtain ⟨g, hg, hg0⟩ := isSome_first e ht
    cases e with
    | cons r0 rest =>
      rename_i v0 vr
      obtain ⟨as0, r0⟩ := r0
      rw [kat_kind_eq, List.mapM_toArray, map_eq_pure_bind]
      refine wpAny_bind (wpAny_bind (mapM_val (g := g) _ (fun v hv Q' hq' => hg v hv _ _ _ _ hq') (wpAny_pure ?_)))
      have h0 : g v0 = none := hg0 _ _ r0
      rw [if_neg (by simp [h0])]
      rw [if_neg (by simp [h0])]
      rw [oneTypeOnly'_eq, List.mapM_toArray, map_eq_pure_bind]
      refine wpAny_bind (wpAny_bind (wpAny_bind (kas_mapM (r := Value.type "tuple") _ (fun v hv Q' hq' => ?_) (wpAny_pure ?_))))
      · have e' : EachIs (fun v d => ∃ as, Reads s.heap v d as) (v0 :: vr) (.tuple [] :: es) := .cons ⟨as0, r0⟩ rest
        obtain ⟨d, hd, as, r⟩ := e'.left v hv
        obtain ⟨xs, rfl⟩ := ht d hd
        cases r with
        | @tuple l o vs n _ as₁ h1 h2 h3 h4 =>
          exact (show Looks (model prog w) s.heap (typeOf (.ref l)) (.type "tuple") from by rw [← h2]; exact (Looks.ld h1).andThen .now).here hq'
      · have hall : ((List.map (fun _ => Value.type "tuple") (v0 :: vr)).toArray.all fun x => x == Value.type "tuple") = true := by
          simp only [List.all_toArray, List.all_map, List.all_eq_true]
          intro _ _
          exact beq_self_eq_true _
        have h0 : (List.map (fun _ => Value.type "tuple") (v0 :: vr)).toArray[0]? = some (Value.type "tuple") := by simp
        rw [h0]
        simp only [hall, if_true]
        exact wpAny_pure (wpAny_pure hq)
end
/-! ### the order of data by the interpreter's -/
theorem sortD_eq {xs : List D} (h1 : D.dats 50 xs = true) (h2 : allAlike xs) : xs.mergeSort (dataLe false py) = sortD xs := by
  have hd : ∀ a ∈ xs, a.dat 50 = true := by
    clear h2
    induction xs with
    | nil => intro a h; cases h
    | cons x xs ih =>
      simp only [D.dats, Bool.and_eq_true] at h1
      intro a h
      rcases List.mem_cons.mp h with rfl | h
      · exact h1.1
      · exact ih h1.2 a h
  have e := List.map_mergeSort (r := dataLe false py) (s := fun a b => !D.lt b a) (f := id) (l := xs) fun a ha b hb => by
    show dataLe false py a b = !D.lt b a
    rw [← lt_py b a 50 50 (hd b hb) (hd a ha) (h2 b hb a ha)]
    rfl
  simpa [sortD] using e
section
variable {X : Cx} {W : Wd} {pos apos : Pos}
theorem each_rep (hK : X.K = W.K) {pins : List (Addr × Obj)} {σ : L2.St} {H : Hp} {s : Shared} {B : Addr → Prop} {st : Store} (I : Inv X pins σ H s) : ∀ {vs : List V} {us : List Value} {xs : List D}, RepL W B st H vs xs → Vals vs us → D.dats 50 xs = true →
    EachIs (fun u d => ∃ v, RelV v u ∧ Rep W B st H v d) us xs ∧ EachIs (fun u d => ∃ as, Reads s.heap u (py d) as) us xs
  | _, _, _, .nil, r, _ => by cases r; exact ⟨.nil, .nil⟩
  | _, _, _, .cons a t, r, h => by
    cases r with
    | cons rv rs =>
      simp only [D.dats, Bool.and_eq_true] at h
      obtain ⟨h1, h2⟩ := each_rep hK I t rs h.2
      have p := Rep.dp 50 a h.1
      rw [← hK] at p
      exact ⟨.cons ⟨_, rv, a⟩ h1, .cons (Dp.reads I _ _ _ p rv) h2⟩
theorem each_back {H : Hp} {B : Addr → Prop} {st : Store} : ∀ {us : List Value} {xs : List D}, EachIs (fun u d => ∃ v, RelV v u ∧ Rep W B st H v d) us xs → ∃ vs, Vals vs us ∧ RepL W B st H vs xs
  | _, _, .nil => ⟨[], .nil, .nil⟩
  | _, _, .cons ⟨v, r, a⟩ t => by
    obtain ⟨vs, h1, h2⟩ := each_back t
    exact ⟨v :: vs, .cons r h1, .cons a h2⟩
theorem alike_map {xs : List D} (h : allAlike xs) : AllAlike (xs.map py) := by
  intro d hd d' hd'
  obtain ⟨b, hb, rfl⟩ := List.mem_map.mp hd
  obtain ⟨b', hb', rfl⟩ := List.mem_map.mp hd'
  exact alike_py _ _ (h b hb b' hb')
theorem dats_mem {n : Nat} : ∀ {xs : List D}, D.dats n xs = true → ∀ x ∈ xs, x.dat n = true
  | [], _, _, h => by cases h
  | x :: xs, h, y, hy => by
    simp only [D.dats, Bool.and_eq_true] at h
    rcases List.mem_cons.mp hy with rfl | hy
    · exact h.1
    · exact dats_mem h.2 y hy
theorem ob_at {P : Program} {w : World} {H : Hp} {h : Heap} {a : Addr} {o : HO} (x : ObjOk P w H h a o) : ∃ u, h.get? a = some u := by
  cases o with
  | lst xs => let ⟨_, _, _, _, e⟩ := x; exact ⟨_, e⟩
  | tup xs => let ⟨_, _, _, _, e, _⟩ := x; exact ⟨_, e⟩
  | dK kvs => let ⟨_, _, _, _, _, _, _, e, _⟩ := x; exact ⟨_, e⟩
  | dT kvs => let ⟨_, _, _, _, _, _, _, e, _⟩ := x; exact ⟨_, e⟩
  | set S n => let ⟨_, _, _, _, e, _⟩ := x; exact ⟨_, e⟩
  | ins C dx fs => let ⟨_, _, _, e, _⟩ := x; exact ⟨_, e⟩
  | own y => exact x
  | xd fs => let ⟨_, ⟨_, _, _, e, _⟩, _⟩ := x; exact ⟨_, e⟩
  | rng lo hi => let ⟨_, _, _, e⟩ := x; exact ⟨_, e⟩
  | frz ob u => let ⟨e, _⟩ := x; exact ⟨_, e⟩
  | tbl ps => exact ⟨_, (show h.get? a = some _ from x)⟩
  | met f y => exact ⟨_, (show h.get? a = some _ from x)⟩
  | ext φ => exact x.2.1
/-- a new object laid, wherever -/
theorem laid2 {pins : List (Addr × Obj)} {σ : L2.St} {H : Hp} {s : Shared} {a : Addr} {o : HO} {h' : Heap} {t' : Nat} (I : Inv X pins σ H s) (k : ∀ b u, s.heap.get? b = some u → h'.get? b = some u) (hn : s.heap.get? a = none) (hH : H a = none) (new : ObjOk X.prog X.w (upd H a o) h' a o) :
    Inv X pins σ (upd H a o) { s with heap := h', toks := t' } := by
  refine I.un ⟨fun b u q _ _ _ => k b u q, fun b u q _ _ _ => ⟨u.slots, k b u q⟩, fun b u q n _ => ?_, fun b u q _ => ⟨u, k b u q⟩, fun b xs q => ?_, fun b u xs q => ?_, fun b ps q => ⟨#[], ?_⟩⟩ fun b u e => ?_
  · rw [upd_ne (fun z => by rw [z, hn] at q; cases q)]; exact n
  · rw [upd_ne (ne_of_none q hH)]; exact q
  · rw [upd_ne (ne_of_none q hH)]; exact q
  · rw [upd_ne (ne_of_none q hH), q]; simp
  · by_cases hb : b = a
    · subst hb; rw [upd_same] at e; cases e; exact new
    · rw [upd_ne hb] at e
      exact (I.hok b u e).stay (fun c v _ q => k c v q) (fun c q => by rw [upd_ne (ne_of_none q hH)]; exact q) fun c xs q => by rw [upd_ne (ne_of_none q hH)]; exact q
/-- list.sort of a new list of such data -/
theorem sort_core (hK : X.K = W.K) {pins : List (Addr × Obj)} {σ : L2.St} {H : Hp} {s : Shared} {B : Addr → Prop} {st : Store} {vs : List V} {us : List Value} {xs : List D} {h1 : Heap} {tk : Nat} {A : Around} {E : Value → Shared → Prop} {Q : Value → Shared → Prop}
    (I : Inv X pins σ H s) (l : RepL W B st H vs xs) (rv : Vals vs us) (s1 : D.dats 50 xs = true) (s2 : allAlike xs) (s3 : sortB xs = true) (s4 : xs.length ≤ sizeLine) (hu : A.units + 63 < cLine) (keep : ∀ b o, s.heap.get? b = some o → h1.get? b = some o)
    (h : ∀ (vs' : List V) (out : List Value), Vals vs' out → RepL W B st H vs' (sortD xs) → Q .none { s with heap := sortedHeap (h1.push (seqObj "list" us.toArray 0)) h1.objs.size us out.toArray, toks := tk }) :
    wpAny (model X.prog X.w) A (call (.builtin "list.sort") [.ref h1.objs.size]) Q E { s with heap := h1.push (seqObj "list" us.toArray 0), toks := tk } := by
  have ho : (h1.push (seqObj "list" us.toArray 0)).get? h1.objs.size = some (seqObj "list" us.toArray 0) := Heap.get?_push_size _ rfl
  obtain ⟨e, er⟩ := each_rep hK I l rv s1
  have er' : EachIs (fun u d => ∃ as, Reads (sortingHeap (h1.push (seqObj "list" us.toArray 0)) h1.objs.size us) u (py d) as) us xs := er.mono fun _ _ ⟨as, r⟩ => ⟨as, PyProof.Rows.Reads.keeps (fun b o q => by
    have q1 := keep b o q
    exact sortingHeap_old (Nat.ne_of_lt (Heap.lt_size q1)) (Heap.get?_push_of_some _ q1)) r⟩
  have hal := alike_map s2
  have hdep : ∀ d ∈ xs.map py, A.in1.units + d.depth < cLine := fun d hd => by
    obtain ⟨b, hb, rfl⟩ := List.mem_map.mp hd
    have := (lay_py b 50 (dats_mem s1 b hb)).2
    show A.units + 1 + _ < _
    omega
  have S : SortsAt X.prog X.w A.in1 { s with heap := sortingHeap (h1.push (seqObj "list" us.toArray 0)) h1.objs.size us, toks := tk } (dataKind (sortingHeap (h1.push (seqObj "list" us.toArray 0)) h1.objs.size us) (xs.map py)) us := by
    have em := each_map (R := fun v d => ∃ as, Reads (sortingHeap (h1.push (seqObj "list" us.toArray 0)) h1.objs.size us) v d as) py er'
    simp only [sortB, Bool.or_eq_true, Bool.and_eq_true, List.all_eq_true] at s3
    rcases s3 with (s3 | s3) | ⟨s3, s5⟩
    · refine SortsAt.data (s := { s with heap := sortingHeap (h1.push (seqObj "list" us.toArray 0)) h1.objs.size us, toks := tk }) em hal (.inl fun d hd => ?_) hdep
      obtain ⟨b, hb, rfl⟩ := List.mem_map.mp hd
      have := s3 b hb
      cases b with
      | tup ys => cases ys with
        | nil => cases this
        | cons y ys => exact ⟨py y, pys ys, by simp [py, pys]⟩
      | _ => cases this
    · refine SortsAt.data (s := { s with heap := sortingHeap (h1.push (seqObj "list" us.toArray 0)) h1.objs.size us, toks := tk }) em hal (.inr fun d hd => ?_) hdep
      obtain ⟨b, hb, rfl⟩ := List.mem_map.mp hd
      have := s3 b hb
      have a2 := s2 b hb b hb
      cases b <;> first | (cases this; done) | (simp [D.alike] at a2; done) | exact ⟨by simp [py], by simp [py]⟩
    · cases xs with
      | nil => cases s3
      | cons x xs =>
        cases x with
        | tup ys => cases ys with
          | nil =>
            have e0 : (D.tup [] :: xs).map py = PyData.tuple [] :: xs.map py := by simp [py, pys]
            rw [e0] at em hal hdep ⊢
            refine sortsFirst (s := { s with heap := sortingHeap (h1.push (seqObj "list" us.toArray 0)) h1.objs.size us, toks := tk }) em hal (fun d hd => ?_) hdep
            rcases List.mem_cons.mp hd with rfl | hd
            · exact ⟨_, rfl⟩
            · obtain ⟨b, hb, rfl⟩ := List.mem_map.mp hd
              have := s5 b (List.mem_cons_of_mem _ hb)
              cases b <;> first | (cases this; done) | exact ⟨_, by rw [py]⟩
          | cons _ _ => cases s3
        | _ => cases s3
  refine wpAny_call_entry slot_list_sort ⟨_, ho, rfl⟩ entry_list_sort (list_sort_vals (s := { s with heap := h1.push (seqObj "list" us.toArray 0), toks := tk }) (κ := dataKind (sortingHeap (h1.push (seqObj "list" us.toArray 0)) h1.objs.size us) (xs.map py)) ho S (by rw [e.length]; exact s4) ⟨.none, rfl, ?_⟩) (args_list_sort _)
  have eo := sortVals_data (h' := sortingHeap (h1.push (seqObj "list" us.toArray 0)) h1.objs.size us) (enc := py) false e er' hal
  rw [sortD_eq s1 s2] at eo
  obtain ⟨vs', h5, h6⟩ := each_back eo
  exact h vs' _ h5 h6
/-- sorted of whatever gives these items -/
theorem sorted_core (hK : X.K = W.K) {pins : List (Addr × Obj)} {σ : L2.St} {H : Hp} {s : Shared} {B : Addr → Prop} {st : Store} {vs : List V} {us : List Value} {xs : List D} {x : Value} {Q : VK}
    (I : Inv X pins σ H s) (hu : X.A.units + 64 < cLine) (hu2 : X.A.units + 100 < cLine) (l : RepL W B st H vs xs) (rv : Vals vs us) (s1 : D.dats 50 xs = true) (s2 : allAlike xs) (s3 : sortB xs = true) (s4 : xs.length ≤ sizeLine)
    (col : ∀ (R : List Value → Shared → Prop) (E : Value → Shared → Prop), (∀ h1 tk, (∀ b o, s.heap.get? b = some o → h1.get? b = some o) → R us { s with heap := h1, toks := tk }) → wpAny (model X.prog X.w) X.A.in1 (collect x) R E s)
    (h : ∀ p vs', H p = none → RepL W B st H vs' (sortD xs) → Q (.ref p) (upd H p (.lst vs'))) :
    wpAny (model X.prog X.w) X.A (call (.builtin "sorted") [x]) (EP X pins σ Q) X.xe s := by
  refine call_function_entry kind_sorted plain_sorted entry_sorted (args_sorted1 _) ?_
  unfold Builtin.«sorted»
  refine wpAny_bind (m := checkCount "sorted" 1 1 _) (wpAny_pure ?_)
  refine wpAny_bind (col _ _ fun h1 tk keep => ?_)
  have hl : us.length = xs.length := by rw [← rv.length, l.length]
  refine wpAny_bind (wpAny_newList ?_ (by rw [hl]; exact s4))
  have hg := sort_core (A := X.A.in1) (E := X.xe) (tk := tk) (Q := fun _ s' => EP X pins σ Q (.ref h1.objs.size) s') hK I l rv s1 s2 s3 s4 (by show X.A.units + 1 + 63 < cLine; omega) keep fun vs' out r1 r2 => by
    have hn0 : s.heap.get? h1.objs.size = none := by
      cases z : s.heap.get? h1.objs.size with
      | none => rfl
      | some o => exact absurd (Heap.lt_size (keep _ _ z)) (Nat.lt_irrefl _)
    have hn : H h1.objs.size = none := by
      cases z : H h1.objs.size with
      | none => rfl
      | some u =>
        obtain ⟨o, ho⟩ := ob_at (I.hok _ _ z)
        rw [hn0] at ho; cases ho
    obtain ⟨n, hn2⟩ := sortedHeap_at (h := h1.push (seqObj "list" us.toArray 0)) (vs := us) (n := 0) (out := out.toArray) (Heap.get?_push_size _ rfl)
    refine ⟨.ref h1.objs.size, upd H h1.objs.size (.lst vs'), laid2 (t' := tk) I (fun b o q => ?_) hn0 hn ⟨?_, out, n, r1, hn2⟩, rfl, h _ _ hn r2⟩
    · have q1 := keep b o q
      have q2 := Heap.lt_size q1
      rw [sortedHeap_old (Nat.ne_of_lt q2) (by rw [size_push']; exact Nat.lt_succ_of_lt q2)]
      exact Heap.get?_push_of_some _ q1
    · rw [r2.length]
      show (sortD xs).length ≤ sizeLine
      unfold sortD
      rw [List.length_mergeSort]
      exact s4
  refine wpAny_bind (wpAny_holding (wpAny_mono hg (fun _ s' x => ?_) fun _ _ e => e))
  exact wpAny_pure ⟨_, rfl, x⟩
end
end G
/-! Sorting, greatest and least ones: the rules. -/
namespace G
open PySem PySem.Spec PyProof.Rows L2 PySem.W PySem.Calls
section
variable {X : Cx} {W : Wd} {pos apos : Pos}
/-- the keys of a dict are data -/
theorem KL.repl {B : Addr → Prop} {st : Store} {H : Hp} : ∀ {l : List (NestedKey × Addr × Value)} {kvs : List (D × D)}, KL W B st H l kvs → RepL W B st H (l.map fun x => V.ref x.2.1) (kvs.map (·.1)) ∧ Vals (l.map fun x => V.ref x.2.1) (l.map fun x => Value.ref x.2.1)
  | _, _, .nil => ⟨.nil, .nil⟩
  | _, _, .cons h1 h2 h3 h4 h5 t => ⟨.cons h3 (KL.repl t).1, .cons rfl (KL.repl t).2⟩
theorem raw_of {pins : List (Addr × Obj)} {σ : L2.St} {H : Hp} {s : Shared} {a : Addr} {es : List DictEntry} {ep : Nat} (I : Inv X pins σ H s) (f : H a = some (.ext (RawD a es ep))) : s.heap.DictRaw a es.toArray ep := by
  obtain ⟨⟨o, h1, h2, h3⟩, _⟩ := I.hok a _ f
  exact ⟨o, h1, h2, h3⟩
theorem items_keys {l : List (NestedKey × Addr × Value)} {w : World} {acc : Array Value} (h : ItemsOf (fun i v => ∃ hi : i < (l.map (entW w)).toArray.size, v = (l.map (entW w)).toArray[i].key) acc l.length) : acc.toList = l.map fun x => Value.ref x.2.1 := by
  apply List.ext_getElem?
  intro i
  by_cases hi : i < l.length
  · have hz : i < acc.size := by rw [h.1]; exact hi
    obtain ⟨h1, h2⟩ := h.2 i acc[i] (Array.getElem?_eq_getElem hz)
    rw [Array.getElem?_toList, Array.getElem?_eq_getElem hz, h2, List.getElem?_map, List.getElem?_eq_getElem hi]
    simp [entW]
  · rw [Array.getElem?_toList, Array.getElem?_eq_none (by rw [h.1]; omega), List.getElem?_map, List.getElem?_eq_none (by omega)]
    rfl
theorem bi_sorted (hK : X.K = W.K) (hw : X.w = W.w) (hc : X.calm = true) (hu : X.A.units + 100 < cLine) : CallR X (.builtin "sorted") (rN W fun st a k => ∃ xs, (lstOf st a = some xs ∨ ∃ kvs, dctOf st a = some kvs ∧ xs = kvs.map (·.1)) ∧ sortR xs fun r => k (.lst r)) := by
  intro pins s σ H zs us Q I r ⟨B, st, v, d, P, e0, h, rd, ⟨xs, hx, s1, s2, s3, s4, hk⟩, q⟩
  subst e0
  obtain ⟨u, rfl, rx⟩ := vals1 r
  rcases hx with hx | ⟨kvs, hx, rfl⟩
  · obtain ⟨a, vs, rfl, l, f⟩ := lst_of h rd hx
    cases (show u = Value.ref a from rx)
    obtain ⟨its, rv, p, hz⟩ := I.list (.of f)
    exact sorted_core hK I (by omega) hu l rv s1 s2 s3 s4 (fun R E col => collect_list p.isList (col _ _ fun b o e => by
      rw [Heap.get?_update_ne _ _ _ _ (Nat.ne_of_lt (Heap.lt_size e))]
      exact Heap.get?_push_of_some _ e) (by rw [← rv.length]; exact hz)) fun p vs' hn l' => q _ p _ hk hn ⟨_, rfl, l'⟩
  · obtain ⟨a, l, ep, rfl, rfl, f, hs, hkl, hm, -, -⟩ := dct_at hK hw I h rd hx rx
    obtain ⟨l1, rv⟩ := hkl.repl
    have hlen : l.length = kvs.length := hkl.length
    rw [List.length_map] at s4
    exact sorted_core hK I (by omega) hu l1 rv s1 s2 s3 (by rw [List.length_map]; exact s4) (fun R E col => kdu_collect (KdlSrc.rawDict hs) (I.ok.hd hc) (raw_of I f) (by rw [List.size_toArray, List.length_map, hlen]; exact s4) fun h' tk acc kp ha => by
      have ha' : ItemsOf (fun i v => ∃ hi : i < (l.map (entW W.w)).toArray.size, v = (l.map (entW W.w)).toArray[i].key) acc l.length := by
        have := ha
        simp only [List.size_toArray, List.length_map] at this ⊢
        exact this
      rw [items_keys ha']
      exact col h' tk kp) fun p vs' hn l' => q _ p _ hk hn ⟨_, rfl, l'⟩
/-- list(d) -/
theorem bi_listK (hK : X.K = W.K) (hw : X.w = W.w) (hc : X.calm = true) : CallR X (.type "list") (rN W fun st a k => ∃ kvs, dctOf st a = some kvs ∧ kvs.length ≤ sizeLine ∧ k (.lst (kvs.map (·.1)))) := by
  intro pins s σ H zs us Q I r ⟨B, st, v, d, P, e0, h, rd, ⟨kvs, hx, hz, hk⟩, q⟩
  subst e0
  obtain ⟨u, rfl, rx⟩ := vals1 r
  obtain ⟨a, l, ep, rfl, rfl, f, hs, hkl, hm, -, -⟩ := dct_at hK hw I h rd hx rx
  obtain ⟨l1, rv⟩ := hkl.repl
  have hlen : l.length = kvs.length := hkl.length
  refine kdl_call (KdlSrc.rawDict hs) (I.ok.hd hc) (raw_of I f) (by rw [List.size_toArray, List.length_map, hlen]; exact hz) fun h' tk acc c kp hD ha => ?_
  have ha' : ItemsOf (fun i v => ∃ hi : i < (l.map (entW W.w)).toArray.size, v = (l.map (entW W.w)).toArray[i].key) acc l.length := by
    have := ha
    simp only [List.size_toArray, List.length_map] at this ⊢
    exact this
  have e := items_keys ha'
  have hn : H s.heap.objs.size = none := I.hok.fresh (Nat.le_refl _)
  have new : ObjOk X.prog X.w (upd H s.heap.objs.size (.lst (l.map fun x => V.ref x.2.1))) h' s.heap.objs.size (.lst (l.map fun x => V.ref x.2.1)) :=
    ⟨by rw [List.length_map, hlen]; exact hz, acc.toList, c, by rw [e]; exact rv, by simpa using hD⟩
  exact ⟨.ref s.heap.objs.size, _, I.laid (t' := tk) kp (Nat.le_refl _) new, rfl, q _ _ _ hk hn ⟨_, rfl, l1⟩⟩
theorem RepL.of_get {B : Addr → Prop} {st : Store} {H : Hp} : ∀ {vs : List V} {ds : List D}, vs.length = ds.length → (∀ (i : Nat) v d, vs[i]? = some v → ds[i]? = some d → Rep W B st H v d) → RepL W B st H vs ds
  | [], [], _, _ => .nil
  | [], _ :: _, h, _ => by simp at h
  | _ :: _, [], h, _ => by simp at h
  | v :: vs, d :: ds, h, f => .cons (f 0 v d rfl rfl) (RepL.of_get (by simpa using h) fun i v d h1 h2 => f (i + 1) v d (by simpa using h1) (by simpa using h2))
theorem KL.get {B : Addr → Prop} {st : Store} {H : Hp} : ∀ {l : List (NestedKey × Addr × Value)} {kvs : List (D × D)}, KL W B st H l kvs → ∀ (i : Nat) x, l[i]? = some x → ∃ k d v, kvs[i]? = some (k, d) ∧ Rep W B st H (.ref x.2.1) k ∧ RelV v x.2.2 ∧ Rep W B st H v d
  | _, _, .nil, i, x, h => by simp at h
  | _, _, .cons h1 h2 h3 h4 h5 t, 0, x, h => by simp at h; subst h; exact ⟨_, _, _, rfl, h3, h4, h5⟩
  | _, _, .cons h1 h2 h3 h4 h5 t, i + 1, x, h => by
    obtain ⟨k, d, v, a, b⟩ := KL.get t i x (by simpa using h)
    exact ⟨k, d, v, by simpa using a, b⟩
/-- tuples that are laid already become known by their objects -/
theorem takeF {X : Cx} {pins : List (Addr × Obj)} {σ : L2.St} {H0 : Hp} {s : Shared} {h' : Heap} {tk : Nat} {P : Addr → List V → Prop} (J : Inv X pins σ H0 s) : ∀ (as : List Addr) (H1 : Hp), Inv X pins σ H1 { s with heap := h', toks := tk } → as.Nodup →
    (∀ b ∈ as, s.heap.objs.size ≤ b ∧ H1 b = none ∧ ∃ vs o, P b vs ∧ o.dict = none ∧ ∀ H2, ObjOk X.prog X.w H2 h' b (.frz o (.tup vs))) →
    ∃ H2, Inv X pins σ H2 { s with heap := h', toks := tk } ∧ Same H1 H2 ∧ ∀ b ∈ as, ∃ vs o, P b vs ∧ o.dict = none ∧ H2 b = some (.frz o (.tup vs))
  | [], H1, I1, _, _ => ⟨H1, I1, Same.refl _, fun _ h => nomatch h⟩
  | b :: as, H1, I1, hn, h => by
    obtain ⟨hb, h0, vs, o, hP, hd, ok⟩ := h b List.mem_cons_self
    have I2 : Inv X pins σ (upd H1 b (.frz o (.tup vs))) { s with heap := h', toks := tk } := I1.take (h' := h') (t' := tk) (fun _ _ _ e => e) (J.fpOk hb h0) (ok _)
    have n2 := List.nodup_cons.mp hn
    obtain ⟨H2, I3, sm, q⟩ := takeF J as _ I2 n2.2 fun c hc => by
      obtain ⟨c1, c2, c3⟩ := h c (List.mem_cons_of_mem _ hc)
      have ne : c ≠ b := fun z => n2.1 (z ▸ hc)
      exact ⟨c1, (upd_ne ne).trans c2, c3⟩
    refine ⟨H2, I3, fun c u e => sm c u (same_upd h0 c u e), fun c hc => ?_⟩
    rcases List.mem_cons.mp hc with e | hc
    · rw [e]; exact ⟨vs, o, hP, hd, sm _ _ upd_same⟩
    · exact q c hc
def pairT (p : D × D) : D := .tup [p.1, p.2]
/-- sorted of the items of a dict -/
def rSI (W : Wd) : List V → Hp → VK → Prop := fun xs H Q => ∃ p a B st d kvs P, xs = [.ref p] ∧ H p = some (DX.itemsO p a) ∧ RH W B st H ∧ Rep W B st H (.ref a) d ∧ dctOf st d = some kvs ∧ sortR (kvs.map pairT) P ∧
  ∀ r q H' vs', P r → Same H H' → H' q = none → RepL W B st H' vs' r → RH W B st H' → Q (.ref q) (upd H' q (.lst vs'))
theorem cr_sortedI (hK : X.K = W.K) (hw : X.w = W.w) (hc : X.calm = true) (hu : X.A.units + 100 < cLine) : CallR X (.builtin "sorted") (rSI W) := by
  intro pins s σ H zs us Q I r ⟨p, a, B, st, d, kvs, P, e0, hp, h, rd, hx, ⟨s1, s2, s3, s4, hk⟩, q⟩
  subst e0
  obtain ⟨u, rfl, rx⟩ := vals1 r
  cases (show u = Value.ref p from rx)
  have view : s.heap.IsItemsView p a := (show ObjOk X.prog X.w H s.heap p (DX.itemsO p a) from I.hok p _ hp).1
  obtain ⟨a', l, ep, e, -, f, hs, hkl, hm, -, -⟩ := dct_at (u := .ref a) hK hw I h rd hx rfl
  cases e
  have hlen : l.length = kvs.length := hkl.length
  rw [List.length_map] at s4
  have hsz : (l.map (entW W.w)).toArray.size = l.length := by rw [List.size_toArray, List.length_map]
  refine DT.sortedI (es := (l.map (entW W.w)).toArray) (ep := ep) (I.ok.hd hc) view (raw_of I f) (by rw [hsz, hlen]; exact s4) fun h' tk as hk' hlt hl hG => ?_
  have I1 : Inv X pins σ H { s with heap := h', toks := tk } := I.kept (t' := tk) hk'
  have nd : as.Nodup := List.Pairwise.imp (fun h => Nat.ne_of_lt h) hG.rise
  have pr : ∀ (j : Nat) (b : Addr), as[j]? = some b → ∃ x, l[j]? = some x ∧ h'.get? b = some { cls := .type "tuple", data := .seq #[.ref x.2.1, x.2.2] } := by
    intro j b hj
    obtain ⟨en, he, hg⟩ := hG.pairs j b hj
    rw [List.getElem?_toArray, List.getElem?_map] at he
    cases hxj : l[j]? with
    | none => rw [hxj] at he; cases he
    | some x =>
      rw [hxj] at he
      cases he
      exact ⟨x, rfl, hg⟩
  obtain ⟨H2, I2, sm, qt⟩ := takeF (P := fun b vs => ∃ (j : Nat), ∃ x v, as[j]? = some b ∧ l[j]? = some x ∧ vs = [.ref x.2.1, v] ∧ RelV v x.2.2 ∧ ∃ k d, kvs[j]? = some (k, d) ∧ Rep W B st H (.ref x.2.1) k ∧ Rep W B st H v d) I as H I1 nd fun b hb => by
    obtain ⟨j, hj⟩ := List.mem_iff_getElem?.mp hb
    obtain ⟨x, hx', hg⟩ := pr j b hj
    obtain ⟨k, d', v, e1, e2, e3, e4⟩ := hkl.get j x hx'
    have hbl : s.heap.objs.size ≤ b := Nat.le_of_lt (hG.above b hb)
    exact ⟨hbl, I.hok.fresh hbl, [.ref x.2.1, v], _, ⟨j, x, v, hj, hx', rfl, e3, k, d', e1, e2, e4⟩, rfl, fun H3 => ⟨hg, by rw [sizeLine_eq]; show 2 ≤ 16777216; omega, [Value.ref x.2.1, x.2.2], .cons rfl (.cons e3 .nil), ⟨_, hg, rfl, 0, rfl⟩⟩⟩
  have hlas : as.length = kvs.length := by rw [hl, hsz, hlen]
  have o2 : RH W B st H2 := h.same sm
  have lr : RepL W B st H2 (as.map V.ref) (kvs.map pairT) := RepL.of_get (by simp [hlas]) fun i v d h1 h2 => by
    rw [List.getElem?_map] at h1 h2
    cases hi : as[i]? with
    | none => rw [hi] at h1; cases h1
    | some b =>
      rw [hi] at h1
      cases h1
      obtain ⟨vs, o3, ⟨j, x, v, j1, j2, rfl, r1, k, d', e1, e2, e3⟩, hd3, hH⟩ := qt b (List.mem_of_getElem? hi)
      have eij : i = j := (List.getElem?_inj (List.getElem?_eq_some_iff.mp hi).1 nd).mp (hi.trans j1.symm)
      subst eij
      rw [e1] at h2
      cases h2
      have hbl : s.heap.objs.size ≤ b := Nat.le_of_lt (hG.above b (List.mem_of_getElem? hi))
      exact .tup (.inl ⟨h.free (I.hok.fresh hbl), o3, hd3, hH⟩) (.cons (e2.grow (Grow.same sm)) (.cons (e3.grow (Grow.same sm)) .nil))
  have rv : Vals (as.map V.ref) (as.map Value.ref) := by
    clear lr qt pr nd hl hlas hG
    induction as with
    | nil => exact .nil
    | cons a as ih => exact .cons rfl ih
  refine sort_core (s := { s with heap := h', toks := tk }) (h1 := h') (tk := tk) (E := X.xe) (Q := fun _ s' => EP X pins σ Q (.ref h'.objs.size) s') hK I2 lr rv s1 s2 s3 (by rw [List.length_map]; exact s4) (by show X.A.units + 1 + 63 < cLine; omega) (fun _ _ e => e) fun vs' out r1 r2 => ?_
  have hn0 : h'.get? h'.objs.size = none := Heap.get?_none_of_le (Nat.le_refl _)
  have hn : H2 h'.objs.size = none := I2.hok.fresh (Nat.le_refl _)
  obtain ⟨n, hn2⟩ := sortedHeap_at (h := h'.push (seqObj "list" (as.map Value.ref).toArray 0)) (vs := as.map Value.ref) (n := 0) (out := out.toArray) (Heap.get?_push_size _ rfl)
  have new : ObjOk X.prog X.w (upd H2 h'.objs.size (.lst vs')) (sortedHeap (h'.push (seqObj "list" (as.map Value.ref).toArray 0)) h'.objs.size (as.map Value.ref) out.toArray) h'.objs.size (.lst vs') := by
    refine ⟨?_, out, n, r1, hn2⟩
    rw [r2.length]
    unfold sortD
    rw [List.length_mergeSort, List.length_map]
    exact s4
  refine ⟨.ref h'.objs.size, upd H2 h'.objs.size (.lst vs'), laid2 (s := { s with heap := h', toks := tk }) (t' := tk) I2 (fun b o q => ?_) hn0 hn new, rfl, q _ _ _ _ hk sm hn r2 o2⟩
  have q2 := Heap.lt_size q
  rw [sortedHeap_old (Nat.ne_of_lt q2) (by rw [size_push']; exact Nat.lt_succ_of_lt q2)]
  exact Heap.get?_push_of_some _ q
/-- d.items() as a value -/
theorem pe_items {o : Expr} {mo : M} (hK : X.K = W.K) (hw : X.w = W.w) (ho : PE X o (LE W mo)) (hb : ∀ w, attributeBase o "items" X.env w = w) (hl : (apos.endLine == pos.line) = true) :
    PE X (.Call (.Attribute o "items" apos) [] [] pos) (fun σ H Q => ∃ B ρ st P, R W B ρ st σ H ∧ mo ρ st P ∧ ∀ d st1 a H1 p, P d st1 → (∃ kvs, dctOf st1 d = some kvs) ∧ (Rep W B st1 H1 (.ref a) d → RH W B st1 H1 → Grow st H st1 H1 → H1 p = none → Q (.ref p) (upd H1 p (DX.itemsO p a)))) := by
  refine ⟨fun pins s σ H Q I ⟨B, ρ, st, P, r, h, q⟩ => ?_⟩
  refine wpAny_Call_method0_late (hb _) hl (thn (ho.run pins s σ H _ I (le_go r h)) fun u s1 ⟨v, H1, I1, rx, x, st1, h1, r1, o1, g1⟩ => ?_)
  obtain ⟨kvs, e1⟩ := (q x st1 0 H1 0 h1).1
  obtain ⟨a, l, ep, rfl, rfl, f, hs, -, hm, t1, t2⟩ := dct_at hK hw I1 o1 r1 e1 rx
  refine ⟨"dict", "dict.items", PySem.F.plainAttrs_dict, PySem.F.slot_dict_items, PySem.F.type_dict_items, t1, t2, Calls.callWith_builtin rfl (PySem.evalArgs_none ?_)⟩
  refine DT.callItems (es := (l.map (entW W.w)).toArray) (ep := ep) hs (raw_of I1 f) ?_
  have hf : H1 s1.heap.objs.size = none := I1.hok.fresh (Nat.le_refl _)
  exact ⟨.ref s1.heap.objs.size, upd H1 s1.heap.objs.size (DX.itemsO s1.heap.objs.size a), I1.laid (t' := s1.toks) (fun b u e => Heap.get?_push_of_some _ e) (Nat.le_refl _) (DX.itemsO_ok (Heap.get?_push_size _ rfl)), rfl, (q x st1 a H1 _ h1).2 r1 o1 g1 hf⟩
/-- sorted(d.items()) -/
theorem p_sortedI {o : Expr} {mo : M} {p2 p3 : Pos} (hK : X.K = W.K) (hw : X.w = W.w) (hc : X.calm = true) (hu : X.A.units + 100 < cLine) (hg : Gl X "sorted") (hm : X.mg "sorted" = none) (ho : PE X o (LE W mo)) (hb : ∀ w, attributeBase o "items" X.env w = w) (hl : (apos.endLine == p2.line) = true) :
    PE X (.Call (.Name "sorted" p3) [.Call (.Attribute o "items" apos) [] [] p2] [] pos) (LP W fun ρ st Q => mo ρ st fun x st1 => ∃ kvs, dctOf st1 x = some kvs ∧ sortR (kvs.map fun p => .tup [p.1, p.2]) fun r => Q (.lst r) st1) := by
  have hs : starEach [.Call (.Attribute o "items" apos) [] [] p2] X.env = [(false, eval (.Call (.Attribute o "items" apos) [] [] p2) X.env)] := rfl
  refine (pe_callB (cr_sortedI hK hw hc hu) hg hm (by decide +kernel) (pa_cons (pe_items (pos := p2) hK hw ho hb hl) pa_nil hs) (he := hs)).mono fun σ H Q ⟨B, ρ, st, P, r, h, q⟩ => ?_
  refine ⟨B, ρ, st, _, r, h, fun d st1 a H1 p ⟨kvs, e1, h1⟩ => ⟨⟨kvs, e1⟩, fun r1 o1 g1 hp => ?_⟩⟩
  have sm := same_upd (u := DX.itemsO p a) hp
  refine ⟨p, a, B, st1, d, kvs, _, rfl, upd_same, o1.same sm, r1.grow (Grow.same sm), e1, h1, fun r' q' H' vs' h' sm' hn l' o' => ?_⟩
  exact q _ _ _ _ _ h' hn ⟨_, rfl, l'⟩ o' (g1.trans ((Grow.same sm).trans (Grow.same sm')))
end
end G
/-! Greatest and least ones. -/
namespace G
open PySem PySem.Spec PyProof.Rows L2 PySem.W PySem.Calls
mutual
theorem py_inj : ∀ (a b : D) (n m : Nat), a.dat n = true → b.dat m = true → py a = py b → a = b
  | .non, b, n, m, _, h2, e => by cases b <;> simp [D.dat, py] at h2 e ⊢
  | .bl x, b, n, m, _, h2, e => by cases b <;> simp [D.dat, py] at h2 e ⊢; exact e
  | .int x, b, n, m, _, h2, e => by cases b <;> simp [D.dat, py] at h2 e ⊢; exact e
  | .str x, b, n, m, _, h2, e => by cases b <;> simp [D.dat, py] at h2 e ⊢; exact e
  | .tup xs, b, n, m, h1, h2, e => by
    cases b <;> simp only [py, reduceCtorEq] at e
    · rename_i ys
      cases n with
      | zero => simp [D.dat] at h1
      | succ n =>
        cases m with
        | zero => simp [D.dat] at h2
        | succ m =>
          simp only [D.dat] at h1 h2
          rw [pys_inj xs ys n m h1 h2 (by simpa using e)]
    all_goals simp [D.dat] at h2
  | .lst xs, b, n, m, h1, h2, e => by
    cases b <;> simp only [py, reduceCtorEq] at e
    · rename_i ys
      cases n with
      | zero => simp [D.dat] at h1
      | succ n =>
        cases m with
        | zero => simp [D.dat] at h2
        | succ m =>
          simp only [D.dat] at h1 h2
          rw [pys_inj xs ys n m h1 h2 (by simpa using e)]
    all_goals simp [D.dat] at h2
  | .dct _, b, n, m, h1, _, _ => by simp [D.dat] at h1
  | .ins _ _, b, n, m, h1, _, _ => by simp [D.dat] at h1
  | .loc _, b, n, m, h1, _, _ => by simp [D.dat] at h1
  | .clo _, b, n, m, h1, _, _ => by simp [D.dat] at h1
  | .ro _, b, n, m, h1, _, _ => by simp [D.dat] at h1
theorem pys_inj : ∀ (a b : List D) (n m : Nat), D.dats n a = true → D.dats m b = true → pys a = pys b → a = b
  | [], [], _, _, _, _, _ => rfl
  | [], _ :: _, _, _, _, _, e => by simp [pys] at e
  | _ :: _, [], _, _, _, _, e => by simp [pys] at e
  | x :: xs, y :: ys, n, m, h1, h2, e => by
    simp only [D.dats, Bool.and_eq_true] at h1 h2
    simp only [pys, List.cons.injEq] at e
    rw [py_inj x y n m h1.1 h2.1 e.1, pys_inj xs ys n m h1.2 h2.2 e.2]
end
theorem fold_py {f : D → D → Bool} {g : PyData → PyData → Bool} : ∀ (ds : List D) (d : D), (∀ x ∈ d :: ds, ∀ y ∈ d :: ds, g (py x) (py y) = f x y) →
    py (ds.foldl (fun m x => if f m x then x else m) d) = (pys ds).foldl (fun m x => if g m x then x else m) (py d) ∧ (ds.foldl (fun m x => if f m x then x else m) d) ∈ d :: ds
  | [], d, _ => ⟨rfl, List.mem_cons_self⟩
  | y :: ds, d, h => by
    have e := h d List.mem_cons_self y (by simp)
    simp only [List.foldl_cons, pys, e]
    cases f d y with
    | true =>
      obtain ⟨h1, h2⟩ := fold_py (f := f) (g := g) ds y fun a ha b hb => h a (List.mem_cons_of_mem _ ha) b (List.mem_cons_of_mem _ hb)
      exact ⟨h1, List.mem_cons_of_mem _ h2⟩
    | false =>
      obtain ⟨h1, h2⟩ := fold_py (f := f) (g := g) ds d fun a ha b hb => h a (by rcases List.mem_cons.mp ha with rfl | ha; simp; simp [ha]) b (by rcases List.mem_cons.mp hb with rfl | hb; simp; simp [hb])
      refine ⟨h1, ?_⟩
      rcases List.mem_cons.mp h2 with e | h2
      · exact List.mem_cons.mpr (.inl e)
      · exact List.mem_cons_of_mem _ (List.mem_cons_of_mem _ h2)
section
variable {X : Cx} {W : Wd} {pos apos : Pos}
theorem reads_list (hK : X.K = W.K) {pins : List (Addr × Obj)} {σ : L2.St} {H : Hp} {s : Shared} {B : Addr → Prop} {st : Store} (I : Inv X pins σ H s) {n : Nat} : ∀ {vs : List V} {us : List Value} {xs : List D}, RepL W B st H vs xs → Vals vs us → D.dats n xs = true →
    ∃ as, ReadsAll s.heap us (pys xs) as
  | _, _, _, .nil, r, _ => by cases r; exact ⟨[], .nil⟩
  | _, _, _, .cons a t, r, h => by
    cases r with
    | cons rv rs =>
      simp only [D.dats, Bool.and_eq_true] at h
      obtain ⟨as, h1⟩ := reads_list hK I t rs h.2
      have p := Rep.dp n a h.1
      rw [← hK] at p
      obtain ⟨bs, h2⟩ := Dp.reads I _ _ _ p rv
      exact ⟨bs ++ as, .cons h2 h1⟩
theorem alike_pys {xs : List D} (h : allAlike xs) : PySem.W.AlikeAll (pys xs) := by
  rw [pys_map]
  refine ⟨fun x hx y hy => ?_, fun x hx => ?_⟩
  · obtain ⟨b, hb, rfl⟩ := List.mem_map.mp hx
    obtain ⟨b', hb', rfl⟩ := List.mem_map.mp hy
    exact alike_py _ _ (h b hb b' hb')
  · obtain ⟨b, hb, rfl⟩ := List.mem_map.mp hx
    intro z
    have := h b hb b hb
    cases b <;> simp [py] at z <;> simp [D.alike] at this
theorem max1_py {d : D} {ds : List D} (h1 : D.dats 60 (d :: ds) = true) (h2 : allAlike (d :: ds)) : ∃ m, maxL (d :: ds) = some m ∧ py m = maxD (py d) (pys ds) ∧ m ∈ d :: ds := by
  have hm := dats_mem h1
  obtain ⟨a, b⟩ := fold_py (f := fun m x => m.lt x) (g := fun m x => dataLt m x) ds d fun x hx y hy => by
    first | exact lt_py x y 60 60 (hm x hx) (hm y hy) (h2 x hx y hy) | exact lt_py y x 60 60 (hm y hy) (hm x hx) (h2 y hy x hx)
  exact ⟨_, rfl, a, b⟩
/-- max(xs), by the item itself -/
theorem c_max1 (hK : X.K = W.K) (hc : X.calm = true) (hu : X.A.units + 100 < cLine) : CallR X (.builtin "max") (rB W fun st a k => ∃ xs m, lstOf st a = some xs ∧ D.dats 60 xs = true ∧ allAlike xs ∧ maxL xs = some m ∧ k m) := by
  intro pins s σ H zs us Q I r ⟨B, st, v, d, P, e0, h, rd, ⟨xs, m, hx, h1, h2, h3, hk⟩, q⟩
  subst e0
  obtain ⟨u, rfl, rx⟩ := vals1 r
  obtain ⟨a, vs, rfl, l, f⟩ := lst_of h rd hx
  cases (show u = Value.ref a from rx)
  obtain ⟨its, rv, p, hz⟩ := I.list (.of f)
  obtain ⟨as, hr⟩ := reads_list hK I l rv h1
  cases xs with
  | nil => cases h3
  | cons x xs =>
    obtain ⟨m', e1, e2, e3⟩ := max1_py h1 h2
    rw [e1] at h3; cases h3
    have dep := (lays_py (x :: xs) 60 h1).2
    refine max_list_data (x := py x) (xs := pys xs) (I.ok.hd hc) p.isList hr (alike_pys h2) (by show X.A.units + 1 + PyData.depthAll (pys (x :: xs)) < _; omega) fun i w h' tk bs hw rw' kp => ?_
    have hi : i < its.length := by
      rcases Nat.lt_or_ge i its.length with z | z
      · exact z
      · rw [List.getElem?_toArray, List.getElem?_eq_none z] at hw; cases hw
    rw [List.getElem?_toArray] at hw
    have hlv : vs.length = its.length := rv.length
    have hlx := l.length
    obtain ⟨v1, g1⟩ : ∃ v1, vs[i]? = some v1 := ⟨vs[i]'(by omega), List.getElem?_eq_getElem (by omega)⟩
    obtain ⟨d1, g2, r1⟩ := l.get' i v1 g1
    obtain ⟨u1, g3, ru⟩ := rv.get g1
    rw [hw] at g3; cases g3
    have hd1 : d1.dat 60 = true := dats_mem h1 d1 (List.mem_of_getElem? g2)
    have pd := Rep.dp 60 r1 hd1
    rw [← hK] at pd
    obtain ⟨cs, rd1⟩ := Dp.reads I _ _ _ pd ru
    have ed : py d1 = py m := by
      rw [e2]
      exact alike_unique _ _ _ _ _ (by rw [← e2]; exact alike_py _ _ (h2 d1 (List.mem_of_getElem? g2) m e3)) (PyProof.Rows.Reads.keeps kp rd1) rw'
    have em := py_inj _ _ 60 60 hd1 (dats_mem h1 m e3) ed
    subst em
    exact ⟨v1, H, I.kept (t' := tk) kp, ru, q _ _ _ hk r1 (Same.refl _)⟩
theorem min1_py {d : D} {ds : List D} (h1 : D.dats 60 (d :: ds) = true) (h2 : allAlike (d :: ds)) : ∃ m, minL (d :: ds) = some m ∧ py m = minD (py d) (pys ds) ∧ m ∈ d :: ds := by
  have hm := dats_mem h1
  obtain ⟨a, b⟩ := fold_py (f := fun m x => x.lt m) (g := fun m x => dataLt x m) ds d fun x hx y hy => by
    first | exact lt_py x y 60 60 (hm x hx) (hm y hy) (h2 x hx y hy) | exact lt_py y x 60 60 (hm y hy) (hm x hx) (h2 y hy x hx)
  exact ⟨_, rfl, a, b⟩
/-- min(xs), by the item itself -/
theorem c_min1 (hK : X.K = W.K) (hc : X.calm = true) (hu : X.A.units + 100 < cLine) : CallR X (.builtin "min") (rB W fun st a k => ∃ xs m, lstOf st a = some xs ∧ D.dats 60 xs = true ∧ allAlike xs ∧ minL xs = some m ∧ k m) := by
  intro pins s σ H zs us Q I r ⟨B, st, v, d, P, e0, h, rd, ⟨xs, m, hx, h1, h2, h3, hk⟩, q⟩
  subst e0
  obtain ⟨u, rfl, rx⟩ := vals1 r
  obtain ⟨a, vs, rfl, l, f⟩ := lst_of h rd hx
  cases (show u = Value.ref a from rx)
  obtain ⟨its, rv, p, hz⟩ := I.list (.of f)
  obtain ⟨as, hr⟩ := reads_list hK I l rv h1
  cases xs with
  | nil => cases h3
  | cons x xs =>
    obtain ⟨m', e1, e2, e3⟩ := min1_py h1 h2
    rw [e1] at h3; cases h3
    have dep := (lays_py (x :: xs) 60 h1).2
    refine min_list_data (x := py x) (xs := pys xs) (I.ok.hd hc) p.isList hr (alike_pys h2) (by show X.A.units + 1 + PyData.depthAll (pys (x :: xs)) < _; omega) fun i w h' tk bs hw rw' kp => ?_
    have hi : i < its.length := by
      rcases Nat.lt_or_ge i its.length with z | z
      · exact z
      · rw [List.getElem?_toArray, List.getElem?_eq_none z] at hw; cases hw
    rw [List.getElem?_toArray] at hw
    have hlv : vs.length = its.length := rv.length
    have hlx := l.length
    obtain ⟨v1, g1⟩ : ∃ v1, vs[i]? = some v1 := ⟨vs[i]'(by omega), List.getElem?_eq_getElem (by omega)⟩
    obtain ⟨d1, g2, r1⟩ := l.get' i v1 g1
    obtain ⟨u1, g3, ru⟩ := rv.get g1
    rw [hw] at g3; cases g3
    have hd1 : d1.dat 60 = true := dats_mem h1 d1 (List.mem_of_getElem? g2)
    have pd := Rep.dp 60 r1 hd1
    rw [← hK] at pd
    obtain ⟨cs, rd1⟩ := Dp.reads I _ _ _ pd ru
    have ed : py d1 = py m := by
      rw [e2]
      exact alike_unique _ _ _ _ _ (by rw [← e2]; exact alike_py _ _ (h2 d1 (List.mem_of_getElem? g2) m e3)) (PyProof.Rows.Reads.keeps kp rd1) rw'
    have em := py_inj _ _ 60 60 hd1 (dats_mem h1 m e3) ed
    subst em
    exact ⟨v1, H, I.kept (t' := tk) kp, ru, q _ _ _ hk r1 (Same.refl _)⟩
end
end G
/-! Dicts written by their methods; displays; dict(pairs). -/
namespace G
open PySem PySem.Spec PyProof.Rows L2
section
variable {X : Cx} {W : Wd} {pos apos : Pos}
/-- d.setdefault(k, x) -/
theorem s_setd {o e f : Expr} {mo me mf : M} (hK : X.K = W.K) (hw : X.w = W.w) (hu : X.A.units + 64 < cLine) (ho : PE X o (LE W mo)) (he : PE X e (LE W me)) (hf : PE X f (LE W mf)) (hb : ∀ w, attributeBase o "setdefault" X.env w = w) (hl : (apos.endLine == pos.line) = true) (hs : starEach [e, f] X.env = [(false, eval e X.env), (false, eval f X.env)]) :
    PE X (.Call (.Attribute o "setdefault" apos) [e, f] [] pos) (LE W fun ρ st Q => mo ρ st fun x st1 => ∃ a zs ep, x = .loc a ∧ st1 a = some (.dct zs ep) ∧ me ρ st1 fun y st2 => mf ρ st2 fun d st3 => ∃ kvs ep, st3 a = some (.dct kvs ep) ∧ isKey y ∧ kvs.length < sizeLine ∧
      orD (look kvs y) (fun v => Q v st3) (∀ ep, Q d (st3.set a (.dct (put kvs y d) ep)))) := by
  have m := m2_of (m := "setdefault") hb hl hs
  refine ⟨fun pins s σ H Q I ⟨B, ρ, st, P, r, h, q⟩ => ?_⟩
  refine wpAny_Call_method m.base m.few m.line PySem.F.plainAttrs_dict PySem.F.slot_dict_setdefault PySem.F.type_dict_setdefault (thn (ho.run pins s σ H _ I (le_go r h)) fun u s1 ⟨v, H1, I1, rx, x, st1, ⟨a, zs, ep0, ex, e1, h1⟩, r1, o1, g1⟩ => ?_)
  subst ex
  have e1' : dctOf st1 (.loc a) = some zs := by show (match st1 a with | some (.dct xs _) => some xs | _ => none) = _; rw [e1]
  obtain ⟨a1, l, ep, rfl, rfl, -, -, -, -, t1, t2⟩ := dct_at hK hw I1 o1 r1 e1' rx
  cases r1
  refine ⟨t1, t2, ?_⟩
  rw [m.trees]
  refine Calls.callWith_builtin rfl (Calls.evalArgs_plain (Calls.spliced_cons (thn (he.run pins s1 σ H1 _ I1 (le_go (r.step g1 o1) h1)) fun iv s2 ⟨v2, H2, I2, ry, y, st2, h2, r2, o2, g2⟩ =>
    Calls.spliced_cons (thn (hf.run pins s2 σ H2 _ I2 (le_go (r.step (g1.trans g2) o2) h2)) fun fv s3 ⟨v3, H3, I3, rz, d, st3, ⟨kvs, ep', e3, hy, hz, h3⟩, r3, o3, g3⟩ => Calls.spliced_nil ?_))))
  have r2' := r2.grow g3
  have e3' : dctOf st3 (.loc a) = some kvs := by show (match st3 a with | some (.dct xs _) => some xs | _ => none) = _; rw [e3]
  obtain ⟨a', l, ep, e4, -, f, hsm, hkl, hm, -, -⟩ := dct_at (v := .ref a) (u := .ref a) hK hw I3 o3 (.loc a) e3' rfl
  cases e4
  obtain ⟨b, rfl⟩ := key_ref hy r2
  obtain ⟨kk, hk, hd⟩ := key_of hy
  cases (show iv = Value.ref b from ry)
  have gg := g1.trans (g2.trans g3)
  refine call_setdefault_heap (knd := nestedKind X.prog X.w) (room9 hu) (dat_nis hK I3 hk hd r2') hsm hm (fun p hp => ?_) (fun hp h' hm' sb => ?_) (by rw [hkl.length]; omega)
  · rcases KL.look hk hkl with ⟨h4, h5⟩ | ⟨p', d', v', h4, h5, h6, h7⟩
    · rw [h4] at hp; cases hp
    · rw [h4] at hp; cases hp
      rw [h5] at h3
      exact ⟨_, _, I3.tok _, h6, q _ _ _ _ h3 h7 o3 gg⟩
  · rcases KL.look hk hkl with ⟨h4, h5⟩ | ⟨p', d', v', h4, h5, h6, h7⟩
    · rw [h5] at h3
      obtain ⟨ep', H', I', o4, g4⟩ := wr_dct (t' := s3.toks + (nestedKind X.prog X.w).draws kk) hw I3 o3 e3 (hkl.put (a := b) hk hy r2' rz r3) hm' sb
      exact ⟨_, _, I', rz, q _ _ _ _ (h3 ep') (r3.grow g4) o4 (gg.trans g4)⟩
    · rw [h4] at hp; cases hp
theorem KL.putAll {B : Addr → Prop} {st : Store} {H : Hp} : ∀ {l' : List (NestedKey × Addr × Value)} {more : List (D × D)} {l : List (NestedKey × Addr × Value)} {kvs : List (D × D)}, KL W B st H l' more → (∀ p ∈ more, isKey p.1 = true) → KL W B st H l kvs → KL W B st H (storedAllH l l') (G.putAll kvs more)
  | _, _, _, _, .nil, _, h => h
  | _, _, _, _, .cons (ks := ks) h1 h2 h3 h4 h5 t, hk, h => by
    unfold storedAllH G.putAll
    rw [List.foldl_cons, List.foldl_cons]
    exact KL.putAll t (fun p hp => hk p (List.mem_cons_of_mem _ hp)) (h.put (by simp [nk, h1]) (hk _ List.mem_cons_self) h3 h4 h5)
/-- d.update(d2), d not empty -/
theorem s_upd {o e : Expr} {mo me : M} (hK : X.K = W.K) (hw : X.w = W.w) (hu : X.A.units + 64 < cLine) (ho : PE X o (LE W mo)) (he : PE X e (LE W me)) (hb : ∀ w, attributeBase o "update" X.env w = w) (hl : (apos.endLine == pos.line) = true) (hs : starEach [e] X.env = [(false, eval e X.env)]) :
    PE X (.Call (.Attribute o "update" apos) [e] [] pos) (LE W fun ρ st Q => mo ρ st fun x st1 => ∃ a zs ep, x = .loc a ∧ st1 a = some (.dct zs ep) ∧ me ρ st1 fun y st2 => ∃ kvs more ep, st2 a = some (.dct kvs ep) ∧ y = .dct more ∧ kvs ≠ [] ∧ more.all (fun p => isKey p.1) ∧ kvs.length + more.length < sizeLine ∧
      ∀ ep, Q .non (st2.set a (.dct (putAll kvs more) ep))) := by
  have m := m1_of (m := "update") hb hl hs
  refine ⟨fun pins s σ H Q I ⟨B, ρ, st, P, r, h, q⟩ => ?_⟩
  refine wpAny_Call_method m.base m.few m.line PySem.F.plainAttrs_dict PySem.F.slot_dict_update PySem.F.type_dict_update (thn (ho.run pins s σ H _ I (le_go r h)) fun u s1 ⟨v, H1, I1, rx, x, st1, ⟨a, zs, ep0, ex, e1, h1⟩, r1, o1, g1⟩ => ?_)
  subst ex
  have e1' : dctOf st1 (.loc a) = some zs := by show (match st1 a with | some (.dct xs _) => some xs | _ => none) = _; rw [e1]
  obtain ⟨a1, l, ep, rfl, rfl, -, -, -, -, t1, t2⟩ := dct_at hK hw I1 o1 r1 e1' rx
  cases r1
  refine ⟨t1, t2, ?_⟩
  rw [m.trees]
  refine Calls.callWith_builtin rfl (Calls.evalArgs_plain (Calls.spliced_cons (thn (he.run pins s1 σ H1 _ I1 (le_go (r.step g1 o1) h1)) fun iv s2 ⟨v2, H2, I2, ry, y, st2, ⟨kvs, more, ep', e3, ey, hne, hks, hz, h3⟩, r2, o2, g2⟩ => Calls.spliced_nil ?_)))
  subst ey
  have e3' : dctOf st2 (.loc a) = some kvs := by show (match st2 a with | some (.dct xs _) => some xs | _ => none) = _; rw [e3]
  obtain ⟨a', l, ep, e4, -, f, hsm, hkl, hm, -, -⟩ := dct_at (v := .ref a) (u := .ref a) hK hw I2 o2 (.loc a) e3' rfl
  cases e4
  obtain ⟨b, l2, ep2, rfl, rfl, f2, hsm2, hkl2, hm2, -, -⟩ := dct_at hK hw I2 o2 r2 rfl ry
  have nab : a ≠ b := by
    cases r2 with
    | dct z _ _ _ _ => intro e; have z1 := z.1; rw [← e, e3] at z1; cases z1
  have hl1 := hkl.length
  have hl2 := hkl2.length
  refine call_update_dictH (knd := nestedKind X.prog X.w) (room9 hu) nab hsm2 hm hm2 (.inl fun z => hne (by rw [z] at hl1; exact List.eq_nil_of_length_eq_zero hl1.symm)) (by omega) fun h' hm' _ sb => ?_
  obtain ⟨ep', H', I', o4, g4⟩ := wr_dct (t' := s2.toks) hw I2 o2 e3 (KL.putAll hkl2 (fun p hp => List.all_eq_true.mp hks p hp) hkl) hm' sb
  exact ⟨.non, _, I', rfl, q _ _ _ _ (h3 ep') .non o4 (g1.trans (g2.trans g4))⟩
/-! ### displays -/
theorem raw_new {P : Program} {w : World} {H : Hp} (h : Heap) : ObjOk P w H (h.push { cls := .type "dict", data := .dict #[] }) h.objs.size (.ext (RawD h.objs.size [] 0)) :=
  ⟨⟨_, Heap.get?_push_size _ rfl, ⟨rfl, rfl, rfl⟩, rfl⟩, ⟨_, Heap.get?_push_size _ rfl⟩, fun h1' h2' ⟨o', z1, z2, z3⟩ k => ⟨o', k _ z1, z2, z3⟩⟩
theorem sys_ne {pins : List (Addr × Obj)} {σ : L2.St} {H : Hp} {s : Shared} (I : Inv X pins σ H s) : (s.heap.objs.size == sysModules) = false := beq_eq_false_iff_ne.mpr (Ne.symm (Nat.ne_of_lt I.big))
theorem p_dct0 : PE X (.Dict [] [] pos) (LP W fun _ st Q => ∀ ep, Q (.dct [] ep) st) := by
  refine ⟨fun pins s σ H Q I ⟨B, ρ, st, P, r, h, q⟩ => ?_⟩
  refine wpAny_Dict_empty ⟨.ref s.heap.objs.size, _, I.laid (t' := s.toks) (fun _ _ q => Heap.get?_push_of_some _ q) (Nat.le_refl _) (raw_new s.heap), rfl, q _ _ _ _ _ (h 0) (I.hok.fresh (Nat.le_refl _)) ⟨[], rfl, sys_ne I, .nil, List.nodup_nil⟩ r.ob (Grow.refl _ _)⟩
/-- in a heap with a new, hidden object -/
theorem R.hideNew {B : Addr → Prop} {ρ : Env} {st : Store} {σ : L2.St} {H : Hp} {x : Addr} {u : HO} (r : R W B ρ st σ H) (n : H x = none) : R W (Hide B x) ρ st σ (upd H x u) := by
  have lB : ∀ a, Hide B x a → B a ∨ H a = none := fun a z => z.elim .inl fun e => .inr (by rw [e]; exact n)
  refine ⟨r.len, fun i d e => ?_, r.ob.hideNew n⟩
  obtain ⟨v, e1, e2⟩ := r.var i d e
  exact ⟨v, e1, (e2.re lB).grow (Grow.same (same_upd n))⟩
/-- it is shown at last -/
theorem show_new {B : Addr → Prop} {st st' : Store} {H H' : Hp} {x : Addr} {u : HO} {m : M} (n : H x = none) (nB : ¬ B x) (o : RH W (Hide B x) st' H') (g : Grow st (upd H x u) st' H') : RH W B st' (cut H' x) ∧ Grow st H st' (cut H' x) := by
  refine ⟨o.unhide nB, fun a ob h1 h2 nn => ?_⟩
  have ne : a ≠ x := fun z => by rw [z, n] at h2; cases h2
  obtain ⟨h3, h4⟩ := g a ob h1 (by rw [upd_ne ne]; exact h2) nn
  exact ⟨h3, by rw [cut_ne ne]; exact h4⟩
theorem upd_cut2 {H : Hp} {x : Addr} {u : HO} : upd (cut H x) x u = upd H x u := by
  funext a
  unfold upd cut
  by_cases e : a = x
  · rw [if_pos e, if_pos e]
  · rw [if_neg e, if_neg e, if_neg e]
/-- {k: v} -/
theorem p_dct1 {k v : Expr} {mk mv : M} (hK : X.K = W.K) (hw : X.w = W.w) (hu : X.A.units + 64 < cLine) (hk : PE X k (LE W mk)) (hv : PE X v (LE W mv)) :
    PE X (.Dict [some k] [v] pos) (LP W fun ρ st Q => mk ρ st fun y st1 => mv ρ st1 fun d st2 => isKey y ∧ ∀ ep, Q (.dct [(y, d)] ep) st2) := by
  refine ⟨fun pins s σ H Q I ⟨B, ρ, st, P, r, h, q⟩ => ?_⟩
  have hp : H s.heap.objs.size = none := I.hok.fresh (Nat.le_refl _)
  have nB : ¬ B s.heap.objs.size := (r.ob.free hp).2
  have I1 := I.laid (t' := s.toks) (fun _ _ q => Heap.get?_push_of_some _ q) (Nat.le_refl _) (raw_new (P := X.prog) (w := X.w) (H := upd H s.heap.objs.size (.ext (RawD s.heap.objs.size [] 0))) s.heap)
  rw [arm_eval_Dict, zip_pairTrees [some k] [v] X.env pos rfl rfl, dictDisplay_pairs (pairTrees [some k] [v] X.env pos) (by simp [pairTrees]) (by simp [pairTrees])]
  refine wpAny_bind (wpAny_standAt (wpAny_bind (wpAny_subDictH (knd := nestedKind X.prog X.w) (Q := fun d s' => wpAny (model X.prog X.w) X.A (pure (Value.ref d)) (EP X pins σ Q) X.xe s') (by show X.A.units + 8 < cLine; omega) (by simp [pairTrees]) ?_)))
  have r1 := r.hideNew (u := .ext (RawD s.heap.objs.size [] 0)) hp
  refine pairTrees_cons_walk (thn (hk.run pins _ σ _ _ I1 (le_go r1 h)) fun kv s1 ⟨v1, H1, I2, rk, y, st1, h1, r2, o1, g1⟩ => ?_)
  refine thn (hv.run pins s1 σ H1 _ I2 (le_go (r1.step g1 o1) h1)) fun vv s2 ⟨v2, H2, I3, rv, d, st2, ⟨hy, h2⟩, r3, o2, g2⟩ => pairTrees_nil_walk ?_
  obtain ⟨b, rfl⟩ := key_ref hy r2
  obtain ⟨kk, hkk, hd⟩ := key_of hy
  cases (show kv = Value.ref b from rk)
  have r2' := r2.grow g2
  have hx : H2 s.heap.objs.size = some (.ext (RawD s.heap.objs.size [] 0)) := by
    have z1 := (g1 s.heap.objs.size _ ((r1.ob.hid _ (.inr rfl)).1) upd_same trivial)
    exact (g2 _ _ z1.1 z1.2 trivial).2
  obtain ⟨⟨o, e1, e2, e3⟩, _⟩ := I3.hok _ _ hx
  refine ⟨[(kk, b, vv)], ⟨rfl, rfl, dat_nis hK I3 hkk hd r2', trivial⟩, ⟨o, #[], 0, e1, e2, e3, rfl, (fun _ z => nomatch z), List.nodup_nil⟩, fun h' tk hm sb => ?_⟩
  have hkl : KL W B st2 (cut H2 s.heap.objs.size) (storedAllH [] [(kk, b, vv)]) [(y, d)] := by
    have nil : KL W B st2 (cut H2 s.heap.objs.size) [] [] := .nil
    have := nil.put (a := b) (v := v2) (u := vv) (d := d) hkk hy r2'.cut1 rv r3.cut1
    have e : G.put [] y d = [(y, d)] := by simp [G.put, look]
    rw [e] at this
    exact this
  obtain ⟨ep, ok⟩ := ext_ok (W := W) (H := upd H2 s.heap.objs.size (.ext (RawD s.heap.objs.size ((storedAllH [] [(kk, b, vv)]).map (entW W.w)) 0))) hw hm
  obtain ⟨o3, g3⟩ := show_new (m := mk) hp nB o2 (g1.trans g2)
  refine wpAny_pure ⟨.ref s.heap.objs.size, upd H2 s.heap.objs.size (.ext (RawD s.heap.objs.size ((storedAllH [] [(kk, b, vv)]).map (entW W.w)) ep)), I3.write (t' := tk) (x := s.heap.objs.size) (e := s.heap.objs.size) (by rw [hx]; trivial) (.inl rfl) (fun c w hc z => (sb.2 c hc).trans z) ?_ ?_, rfl, ?_⟩
  · obtain ⟨o, _, _, ho, _⟩ := hm
    exact ⟨o, ho⟩
  · obtain ⟨⟨o, a1, a2, a3⟩, a4, a5⟩ := ok
    exact ⟨⟨o, a1, a2, a3⟩, a4, a5⟩
  · rw [← upd_cut2]
    exact q _ _ _ _ _ (h2 ep) (if_pos rfl) ⟨_, rfl, sys_ne I, hkl.rk, nodup_of hkl hm⟩ o3 g3
end
end G
/-! Comprehensions of two walks. -/
namespace G
open PySem PySem.Spec PyProof.Rows L2
theorem wipe2 {σ : L2.St} {own : List Nat} : wipe (wipe σ own) own = wipe σ own := by
  apply List.ext_getElem?
  intro j
  by_cases hj : j ∈ own
  · by_cases hl : j < σ.length
    · rw [wipe_get _ _ j hj (by rw [wipe_length]; exact hl), wipe_get _ _ j hj hl]
    · rw [List.getElem?_eq_none (by rw [wipe_length, wipe_length]; simpa using hl), List.getElem?_eq_none (by rw [wipe_length]; simpa using hl)]
  · rw [wipe_out _ _ j hj]
section
variable {X : Cx} {W : Wd} {pos : Pos}
/-- what a filling loop keeps: D holds what was gathered, hidden; all else has grown from the start -/
structure Fill (W : Wd) (B : Addr → Prop) (D : Addr) (st1 : Store) (H1 : Hp) (st2 : Store) (H2 : Hp) (acc : List G.D) (vs : List V) : Prop where
  at_ : H2 D = some (.lst vs)
  rep : RepL W (Hide B D) st2 H2 vs acc
  rh : RH W (Hide B D) st2 H2
  gro : ∀ a o, st1 a = none → a ≠ D → H1 a = some o → nt o → st2 a = none ∧ H2 a = some o
section
variable {B : Addr → Prop} {D : Addr} {st1 st2 st3 : Store} {H1 H2 H3 : Hp} {acc : List G.D} {vs : List V}
theorem Fill.out (f : Fill W B D st1 H1 st2 H2 acc vs) : Gro (Hide B D) st1 H1 st2 H2 := fun a o e1 e2 e3 n => f.gro a o e1 (fun z => e2 (.inr z)) e3 n
theorem Fill.none (f : Fill W B D st1 H1 st2 H2 acc vs) : st2 D = Option.none := (f.rh.hid D (.inr rfl)).1
theorem Fill.grow (f : Fill W B D st1 H1 st2 H2 acc vs) (g : Grow st2 H2 st3 H3) (o : RH W (Hide B D) st3 H3) : Fill W B D st1 H1 st3 H3 acc vs :=
  ⟨(g D _ f.none f.at_ trivial).2, f.rep.grow g, o, fun a u e1 e2 e3 n => let ⟨z1, z2⟩ := f.gro a u e1 e2 e3 n; g a u z1 z2 n⟩
theorem Fill.same (f : Fill W B D st1 H1 st2 H2 acc vs) (s : Same H2 H3) : Fill W B D st1 H1 st2 H3 acc vs := f.grow (Grow.same s) (f.rh.same s)
theorem Fill.add {v : V} {d : G.D} (f : Fill W B D st1 H1 st2 H2 acc vs) (r : Rep W (Hide B D) st2 H2 v d) : Fill W B D st1 H1 st2 (upd H2 D (.lst (vs ++ [v]))) (acc ++ [d]) (vs ++ [v]) :=
  ⟨upd_same, (f.rep.app (.cons r .nil)).gro (Gro.hidden (.inr rfl)), f.rh.bump (.inr rfl), fun a o e1 e2 e3 n => let ⟨z1, z2⟩ := f.gro a o e1 e2 e3 n; ⟨z1, by rw [upd_ne e2]; exact z2⟩⟩
/-- the start of an inner walk: it grows from there, too -/
theorem Fill.from (f : Fill W B D st1 H1 st2 H2 acc vs) : Fill W B D st2 H2 st2 H2 acc vs := ⟨f.at_, f.rep, f.rh, fun _ _ e1 _ e3 _ => ⟨e1, e3⟩⟩
theorem Fill.via {st1' : Store} {H1' : Hp} {acc' : List G.D} {vs' : List V} (f : Fill W B D st1' H1' st2 H2 acc vs) (e : Fill W B D st1 H1 st1' H1' acc' vs') : Fill W B D st1 H1 st2 H2 acc vs :=
  ⟨f.at_, f.rep, f.rh, fun a o e1 e2 e3 n => let ⟨z1, z2⟩ := e.gro a o e1 e2 e3 n; f.gro a o z1 e2 z2 n⟩
theorem Fill.start (o1 : RH W B st1 H1) (hD : H1 D = Option.none) : Fill W B D st1 H1 st1 (upd H1 D (.lst [])) [] [] := ⟨upd_same, .nil, o1.hideNew hD, fun a o e1 e2 e3 _ => ⟨e1, by rw [upd_ne e2]; exact e3⟩⟩
end
def turn2 (p1 : Pt) (own1 : List Nat) (mt1 me : M) (ρ1 : Env) : G.D → Store → List G.D → (List G.D → Store → Prop) → Prop := fun d st acc k =>
  asg p1 d (wipeE ρ1 own1) fun ρ2 => mt1 ρ2 st fun t st1 => ∃ b, t = .bl b ∧ (if b = true then me ρ2 st1 fun x st2 => acc.length < sizeLine ∧ k (acc ++ [x]) st2 else k acc st1)
def turn1 (p : Pt) (own : List Nat) (mt : M) (mi1 : MI) (p1 : Pt) (own1 : List Nat) (mt1 me : M) (ρ : Env) : G.D → Store → List G.D → (List G.D → Store → Prop) → Prop := fun d st acc k =>
  asg p d (wipeE ρ own) fun ρ1 => mt ρ1 st fun t st1 => ∃ b, t = .bl b ∧ (if b = true then mi1 ρ1 st1 fun ds1 C1 st2 => turnsA C1 (turn2 p1 own1 mt1 me ρ1) ds1 st2 acc k else k acc st1)
theorem turnsA_C {α : Type} {C : Store → Prop} {f : G.D → Store → α → (α → Store → Prop) → Prop} {Q : α → Store → Prop} {acc : α} {st : Store} : ∀ {ds : List G.D}, turnsA C f ds st acc Q → C st
  | [], h => h.1
  | _ :: _, h => h.1
theorem comp2_lift {own own1 : List Nat} {mi mi1 : MI} {mt mt1 me : M} {p p1 : Pt} (hp : ∀ i ∈ p.slots, i ∈ own) (hp1 : ∀ i ∈ p1.slots, i ∈ own1) (σ : L2.St) (H : Hp) (Q : VK)
    (hL : LP W (fun ρ st Q => mi ρ st fun ds C st1 => turnsA C (turn1 p own mt mi1 p1 own1 mt1 me ρ) ds st1 ([] : List G.D) fun xs st2 => Q (.lst xs) st2) σ H Q) :
    tLc2 (LI W mi) (LG W p) (LT W mt) (LI W mi1) (LG W p1) (LT W mt1) (LE W me) own own1 σ H Q := by
  obtain ⟨B, ρ, st, P, r, h, q⟩ := hL
  refine ⟨B, ρ, st, _, r, h, fun ds C st1 J H1 h1 wk o1 g1 => ?_⟩
  intro D hD
  have nBD : ¬ B D := (o1.free hD).2
  have lB : ∀ a, Hide B D a → B a ∨ H1 a = none := fun a z => z.elim .inl fun e => .inr (by rw [e]; exact hD)
  have f0 := Fill.start (D := D) o1 hD
  have r1 : R W (Hide B D) ρ st1 σ (upd H1 D (.lst [])) := (r.step g1 o1).hideNew hD
  refine ⟨fun i m H2 => i ≤ ds.length ∧ m = ds.length - i ∧ ∃ (st2 : Store) (acc : List G.D) (vs : List V), Fill W B D st1 H1 st2 H2 acc vs ∧ Fill W B D st1 (upd H1 D (.lst [])) st2 H2 acc vs ∧
    turnsA C (turn1 p own mt mi1 p1 own1 mt1 me ρ) (ds.drop i) st2 acc fun xs st2 => P (.lst xs) st2, ⟨ds.length, Nat.zero_le _, rfl, st1, [], [], f0, f0.from, h1⟩, ?_⟩
  rintro i m H2 ⟨hi, rfl, st2, acc, vs, f2, f2', hT⟩
  obtain ⟨wg, ws, wy⟩ := wk (Hide B D) st2 H2 lB f2.out f2.rh (turnsA_C hT)
  by_cases hlt : i < ds.length
  · refine .inr ⟨wg i hlt, fun H' => ∃ (st2 : Store) (acc : List G.D) (vs : List V), Fill W B D st1 H1 st2 H' acc vs ∧ Fill W B D st1 (upd H1 D (.lst [])) st2 H' acc vs ∧
      turnsA C (turn1 p own mt mi1 p1 own1 mt1 me ρ) (ds.drop (i + 1)) st2 acc fun xs st2 => P (.lst xs) st2, fun H' z => ⟨ds.length - (i + 1), by omega, hlt, rfl, z⟩, fun x H3 hy => ?_⟩
    obtain ⟨rx, sm⟩ := wy i ds[i] x H3 (List.getElem?_eq_getElem hlt) hy
    rw [List.drop_eq_getElem_cons hlt] at hT
    replace hT := hT.2
    have f3 := f2.same sm
    have f3' := f2'.same sm
    have r3 : R W (Hide B D) (wipeE ρ own) st2 (wipe σ own) H3 := (r1.gro f3'.out f3.rh).wipe _
    refine ⟨Hide B D, _, st2, ds[i], _, r3, rx, hT, fun ρ1 σ1 hm r4 hw => ⟨(hw own hp).trans wipe2, ?_⟩⟩
    refine ⟨Hide B D, ρ1, st2, _, r4, hm, fun t st3 H4 ⟨b, e, hb⟩ o4 g4 => ⟨b, e, ?_⟩⟩
    have f4 := f3.grow g4 o4
    have f4' := f3'.grow g4 o4
    cases b with
    | false =>
      simp only [Bool.false_eq_true, if_false] at hb ⊢
      exact ⟨st3, acc, vs, f4, f4', hb⟩
    | true =>
      simp only [if_true] at hb ⊢
      refine ⟨Hide B D, ρ1, st3, _, r4.step g4 o4, hb, fun ds1 C1 st4 J1 H5 h5 wk1 o5 g5 => ?_⟩
      have f5 := f4.grow g5 o5
      have f5' := f4'.grow g5 o5
      have r5 : R W (Hide B D) ρ1 st4 σ1 H5 := (r4.step g4 o4).step g5 o5
      refine ⟨fun j k H' => j ≤ ds1.length ∧ k = ds1.length - j ∧ ∃ (st' : Store) (acc' : List G.D) (vs' : List V), Fill W B D st4 H5 st' H' acc' vs' ∧
        turnsA C1 (turn2 p1 own1 mt1 me ρ1) (ds1.drop j) st' acc' fun acc st => turnsA C (turn1 p own mt mi1 p1 own1 mt1 me ρ) (ds.drop (i + 1)) st acc fun xs st2 => P (.lst xs) st2, ⟨ds1.length, Nat.zero_le _, rfl, st4, acc, vs, f5.from, h5⟩, ?_⟩
      rintro j k H6 ⟨hj, rfl, st6, acc6, vs6, f6, hT6⟩
      obtain ⟨wg1, ws1, wy1⟩ := wk1 (Hide B D) st6 H6 (fun _ z => .inl z) f6.out f6.rh (turnsA_C hT6)
      by_cases hlt1 : j < ds1.length
      · refine .inr ⟨wg1 j hlt1, fun H' => ∃ (st' : Store) (acc' : List G.D) (vs' : List V), Fill W B D st4 H5 st' H' acc' vs' ∧
          turnsA C1 (turn2 p1 own1 mt1 me ρ1) (ds1.drop (j + 1)) st' acc' fun acc st => turnsA C (turn1 p own mt mi1 p1 own1 mt1 me ρ) (ds.drop (i + 1)) st acc fun xs st2 => P (.lst xs) st2, fun H' z => ⟨ds1.length - (j + 1), by omega, hlt1, rfl, z⟩, fun x1 H7 hy1 => ?_⟩
        obtain ⟨rx1, sm1⟩ := wy1 j ds1[j] x1 H7 (List.getElem?_eq_getElem hlt1) hy1
        rw [List.drop_eq_getElem_cons hlt1] at hT6
        replace hT6 := hT6.2
        have f7 := f6.same sm1
        have r7 : R W (Hide B D) (wipeE ρ1 own1) st6 (wipe σ1 own1) H7 := (r5.gro f7.out f7.rh).wipe _
        refine ⟨Hide B D, _, st6, ds1[j], _, r7, rx1, hT6, fun ρ2 σ2 hm2 r8 hw2 => ⟨(hw2 own1 hp1).trans wipe2, ?_⟩⟩
        refine ⟨Hide B D, ρ2, st6, _, r8, hm2, fun t2 st8 H8 ⟨b2, e2, hb2⟩ o8 g8 => ⟨b2, e2, ?_⟩⟩
        have f8 := f7.grow g8 o8
        cases b2 with
        | false =>
          simp only [Bool.false_eq_true, if_false] at hb2 ⊢
          exact ⟨st8, acc6, vs6, f8, hb2⟩
        | true =>
          simp only [if_true] at hb2 ⊢
          refine ⟨Hide B D, ρ2, st8, _, r8.step g8 o8, hb2, fun y st9 v H9 ⟨hz, hk⟩ r9 o9 g9 => ?_⟩
          have f9 := f8.grow g9 o9
          exact ⟨vs6, f9.at_, by rw [f9.rep.length]; exact hz, st9, acc6 ++ [y], vs6 ++ [v], f9.add r9, hk⟩
      · have e : j = ds1.length := by omega
        subst e
        rw [List.drop_length] at hT6
        exact .inl ⟨ws1, st6, acc6, vs6, f6.via f5, f6.via f5', hT6.2⟩
  · have e : i = ds.length := by omega
    subst e
    rw [List.drop_length] at hT
    refine .inl ⟨ws, ?_⟩
    have z := q (.lst acc) st2 (cut H2 D) D (.lst vs) hT.2 (if_pos rfl) ⟨vs, rfl, f2.rep.cut1⟩ (f2.rh.unhide nBD) (fun a o e1 e2 n => ?_)
    · rw [upd_cut f2.at_] at z
      exact z
    · obtain ⟨z1, z2⟩ := g1 a o e1 e2 n
      have ne : a ≠ D := fun q => by rw [q, hD] at z2; cases z2
      obtain ⟨z3, z4⟩ := f2.gro a o z1 ne z2 n
      exact ⟨z3, by rw [cut_ne ne]; exact z4⟩
theorem p_comp2 {elt tg iter tg1 iter1 : Expr} {ifs ifs1 : List Expr} {scope : Scope} {own : List (Str × Nat)} {own1 : List Nat} {mi mi1 : MI} {mt mt1 me : M} {p p1 : Pt} (hc : X.calm = true) (hN : X.N.Nodup) (hi : PI X tg iter (LI W mi)) (ok : BlkOk X.N X.env.scope scope own) (hv : ∀ i ∈ own1, i ∈ own.map (·.2))
    (hg : ∀ (s : Shared) (H : Hp) (C : Addr) (cl : List (Str × Addr)) (fp : List Addr), PG (X.blk s H scope (compEnvC scope cl C X.env) fp) tg (LG W p)) (hp : ∀ i ∈ p.slots, i ∈ own.map (·.2))
    (ht : ∀ (s : Shared) (H : Hp) (C : Addr) (cl : List (Str × Addr)) (fp : List Addr), PTs (X.blk s H scope (compEnvC scope cl C X.env) fp) ifs (LT W mt))
    (hi1 : ∀ (s : Shared) (H : Hp) (C : Addr) (cl : List (Str × Addr)) (fp : List Addr), PI (X.blk s H scope (compEnvC scope cl C X.env) fp) tg1 iter1 (LI W mi1))
    (hg1 : ∀ (s : Shared) (H : Hp) (C : Addr) (cl : List (Str × Addr)) (fp : List Addr), PG (X.blk s H scope (compEnvC scope cl C X.env) fp) tg1 (LG W p1)) (hp1 : ∀ i ∈ p1.slots, i ∈ own1)
    (ht1 : ∀ (s : Shared) (H : Hp) (C : Addr) (cl : List (Str × Addr)) (fp : List Addr), PTs (X.blk s H scope (compEnvC scope cl C X.env) fp) ifs1 (LT W mt1))
    (he : ∀ (s : Shared) (H : Hp) (C : Addr) (cl : List (Str × Addr)) (fp : List Addr), PE (X.blk s H scope (compEnvC scope cl C X.env) fp) elt (LE W me)) (hs : ∀ x, foldedSetIterable iter X.env x = pure x) (hs1 : ∀ env x, foldedSetIterable iter1 env x = pure x) :
    PE X (.ListComp elt [⟨tg, iter, ifs, 0⟩, ⟨tg1, iter1, ifs1, 0⟩] scope pos) (LP W fun ρ st Q => mi ρ st fun ds C st1 => turnsA C (turn1 p (own.map (·.2)) mt mi1 p1 own1 mt1 me ρ) ds st1 ([] : List G.D) fun xs st2 => Q (.lst xs) st2) :=
  (pe_lc2 hc hN hi ok hv hg ht hi1 hg1 ht1 he hs hs1).mono (comp2_lift hp hp1)
end
end G
/-! Dict comprehensions whose keys are tuples. -/
namespace G
open PySem PySem.Spec PyProof.Rows L2
/-- D[y] = z for a hidden dict -/
def SetN (W : Wd) (D : Addr) (y z : V) (H : Hp) (Nx : Hp → Prop) : Prop :=
  ∃ (B : Addr → Prop) (st : Store) (b : Addr) (k d : G.D) (kvs : List (G.D × G.D)) (es : List DictEntry) (ep : Nat), y = .ref b ∧ Rep W B st H (.ref b) k ∧ Rep W B st H z d ∧ H D = some (.ext (RawD D es ep)) ∧ RepK W B st H es kvs ∧ (kvs.map fun p => nk p.1).Nodup ∧
    isKey k = true ∧ kvs.length < sizeLine ∧ ∀ es' ep', RepK W B st H es' (put kvs k d) → ((put kvs k d).map fun p => nk p.1).Nodup → Nx (upd H D (.ext (RawD D es' ep')))
section
variable {X : Cx} {W : Wd} {pos : Pos}
theorem n_dictSet {pins : List (Addr × Obj)} {σ : L2.St} {H : Hp} {s : Shared} {E : Value → Shared → Prop} {D : Addr} {y z : V} {u w : Value} {Nx : Hp → Prop} {Q : Unit → Shared → Prop} (hK : X.K = W.K) (hw : X.w = W.w) (hu : X.A.units + 64 < cLine) (I : Inv X pins σ H s) (ru : RelV y u) (rw' : RelV z w)
    (c : SetN W D y z H Nx) (fin : ∀ s' H', Inv X pins σ H' s' → Nx H' → Q () s') : wpAny (model X.prog X.w) X.A (dictSet D u w) Q E s := by
  obtain ⟨B, st, b, k, d, kvs, es, ep, rfl, rk, rd, f, l, n, hk, hz, q⟩ := c
  obtain ⟨kk, hkk, hd⟩ := key_of hk
  cases (show u = Value.ref b from ru)
  obtain ⟨l', hl, rfl⟩ := l.kl
  have hm := dict_raw hK hw I f hl n
  have hp := hl.put (a := b) hkk hk rk rw' rd
  refine wpAny_dictSet_heap (knd := nestedKind X.prog X.w) (by show X.A.units + 8 < cLine; omega) (dat_nis hK I hkk hd rk) hm (fun h' hm' sb => ?_) (by rw [hl.length]; omega)
  obtain ⟨ep', ok⟩ := ext_ok (W := W) (H := upd H D (.ext (RawD D ((storedH l' kk b w).map (entW W.w)) 0))) hw hm'
  refine fin _ (upd H D (.ext (RawD D ((storedH l' kk b w).map (entW W.w)) ep'))) (I.write (t' := s.toks + (nestedKind X.prog X.w).draws kk) (x := D) (e := D) (by rw [f]; trivial) (.inl rfl) (fun c u hc z => (sb.2 c hc).trans z) ?_ ?_) (q _ _ hp.rk (nodup_of hp hm'))
  · obtain ⟨o, _, _, ho, _⟩ := hm'
    exact ⟨o, ho⟩
  · obtain ⟨⟨o, a1, a2, a3⟩, a4, a5⟩ := ok
    exact ⟨⟨o, a1, a2, a3⟩, a4, a5⟩
/-- {k: v for target in walk if ..} -/
def tDn (W : Wd) (wi : TI) (g : TG) (tt : TT) (tk tv : TE) (vs : List Nat) : TE := fun σ H Q => wi σ H fun J H1 => ∀ D, H1 D = none → (D == sysModules) = false → ∃ Wv : Nat → Nat → Hp → Prop, (∃ m, Wv 0 m (upd H1 D (.ext (RawD D [] 0)))) ∧ ∀ i m H, Wv i m H →
  (J.stop i H ∧ Q (.ref D) H) ∨ (J.go i H ∧ ∃ Nx : Hp → Prop, (∀ H', Nx H' → ∃ m', m' < m ∧ Wv (i + 1) m' H') ∧ ∀ x H', J.yld i H x H' → g x (wipe σ vs) H' fun σ2 H2 => wipe σ2 vs = wipe σ vs ∧ tt σ2 H2 fun b H3 =>
    if b = true then tk σ2 H3 fun y H4 => tv σ2 H4 fun z H5 => SetN W D y z H5 Nx else Nx H3)
theorem dn_core {pins : List (Addr × Obj)} {s : Shared} {σ : L2.St} {H : Hp} {Q : VK} {kx vx tg iter : Expr} {ifs : List Expr} {scope : Scope} {own : List (Str × Nat)} {pos pos' : Pos} {wi : TI} {g : TG} {tt : TT} {tk tv : TE} {use : Option (Value → Sem Unit)} {Qf : Value → Shared → Prop}
    (hK : X.K = W.K) (hw : X.w = W.w) (hu : X.A.units + 64 < cLine) (hc : X.calm = true) (hN : X.N.Nodup) (I : Inv X pins σ H s) (hi : PI X tg iter wi) (ok : BlkOk X.N X.env.scope scope own)
    (hg : ∀ s H C cl fp, PG (X.blk s H scope (compEnvC scope cl C X.env) fp) tg g) (ht : ∀ s H C cl fp, PTs (X.blk s H scope (compEnvC scope cl C X.env) fp) ifs tt)
    (hk : ∀ s H C cl fp, PE (X.blk s H scope (compEnvC scope cl C X.env) fp) kx tk)
    (he : ∀ s H C cl fp, PE (X.blk s H scope (compEnvC scope cl C X.env) fp) vx tv) (hs : ∀ x, foldedSetIterable iter X.env x = pure x)
    (h : tDn W wi g tt tk tv (own.map (·.2)) σ H Q)
    (back : ∀ D C s' m H', Inv X pins σ H' s' → Q (.ref D) H' → s'.heap.Ns C m → FpOk X pins H' C → compPost (model X.prog X.w) X.A X.xe use Qf (.ref D) C (.ok .next) s') :
    wpAny (model X.prog X.w) X.A (comprehension (.DictComp kx vx [⟨tg, iter, ifs, 0⟩] scope pos) scope X.env pos' newDict false (eval iter X.env) use) Qf X.xe s := by
  have fr : ∀ y ∈ scope.names, y.2 = .free → ∃ c, X.env.cells.lookup y.1 = some c := fun y hy e => (ok.free y hy e).elim (fun k => I.ok.has _ (.inl k)) fun k => I.ok.has _ (.inr k)
  refine wpAny_comprehension_free (use := use) rfl hs (closure_ok fr) ok.kind (fun y hy e => by rw [ok.uniq y hy, e]) (thn (hi.run pins s σ H _ I h) fun xv sa ha => thn ha fun itv sb hb => ?_)
  obtain ⟨it, fp, tn, J, Hb, e, Ib, T, stb, fb, q⟩ := hb
  subst e
  refine wpAny_newObj_type (newEnv_comp ?_)
  have hsys : (sb.heap.objs.size == sysModules) = false := sys_ne Ib
  generalize hD : sb.heap.objs.size = D at hsys
  have hDn : Hb D = none := Ib.hok.fresh (Nat.le_of_eq hD)
  obtain ⟨Wv, ⟨m0, w0⟩, turn⟩ := q D hDn hsys
  generalize hsd : ({ sb with heap := sb.heap.push { cls := .type "dict", data := .dict #[] } } : Shared) = sd
  have Id : Inv X pins σ (upd Hb D (.ext (RawD D [] 0))) sd := by
    rw [← hsd]
    refine Ib.laid (t' := sb.toks) (fun b o e => Heap.get?_push_of_some _ e) (Nat.le_of_eq hD) ?_
    rw [← hD]
    exact raw_new sb.heap
  have hd : sd.heap = sb.heap.push { cls := .type "dict", data := .dict #[] } := by rw [← hsd]
  have fd : ∀ b ∈ fp, FpOk X pins (upd Hb D (.ext (RawD D [] 0))) b ∧ b < sd.heap.objs.size := fun b hb => by
    obtain ⟨o, e, _⟩ := T.obj _ _ stb b hb
    have hlt := Heap.lt_size e
    refine ⟨⟨?_, (fb b hb).2⟩, by rw [hd, Heap.size_push]; exact Nat.lt_succ_of_lt hlt⟩
    rw [upd_ne (by rw [← hD]; exact Nat.ne_of_lt hlt)]
    exact (fb b hb).1
  have std : tn 0 sd.heap := T.keep _ _ _ stb fun b _ o e => by rw [hd]; exact Heap.get?_push_of_some _ e
  have Ie := block_start Id ok hN fd
  generalize hcl : cellsFrom (sd.heap.objs.size + 1) scope.names (cloFrom X.env.cells scope.names []) = cl at Ie
  have nfp : ∀ b ∈ fp, (upd Hb D (.ext (RawD D [] 0))) b = none := fun b hb => (fd b hb).1.1
  generalize hHd : upd Hb D (.ext (RawD D [] 0)) = Hd at Id Ie w0 nfp fd
  have pg := hg sd Hd sd.heap.objs.size cl fp
  have pt := ht sd Hd sd.heap.objs.size cl fp
  have pk := hk sd Hd sd.heap.objs.size cl fp
  have pe := he sd Hd sd.heap.objs.size cl fp
  show codeAny _ _ (.compStart (.DictComp kx vx [⟨tg, iter, ifs, 0⟩] scope pos) 0 (.ref it) (.ref D) (compEnvC scope cl sd.heap.objs.size X.env)) (compPost (model X.prog X.w) X.A X.xe use Qf (.ref D) sd.heap.objs.size)
    { sd with heap := pushCells (sd.heap.push { cls := .type "dict", data := .dict #[] }) scope.names }
  generalize hce : compEnvC scope cl sd.heap.objs.size X.env = ce at Ie pg pt pk pe ⊢
  have cL : ce.locals = sd.heap.objs.size := by subst hce; rfl
  generalize hse : ({ sd with heap := pushCells (sd.heap.push { cls := .type "dict", data := .dict #[] }) scope.names } : Shared) = se at Ie ⊢
  have ste : tn 0 se.heap := T.keep _ _ _ std fun b _ o e => by rw [← hse]; exact pushCells_keeps _ _ _ _ (Heap.get?_push_of_some _ e)
  have stat : ∀ {σ' : L2.St} {H' : Hp} {s' : Shared}, Inv (X.blk sd Hd scope ce fp) [] σ' H' s' → (∀ b ∈ fp, H' b = none) → ∀ b ∈ fp, FpOk (X.blk sd Hd scope ce fp) [] H' b := fun I' hn b hb =>
    ⟨hn b hb, (I'.ok.exf b hb).1, I'.ok.exfs b hb, .inl hb, fun x c e => (I'.ok.exf b hb).2 x c e, fun p hp => absurd (show p ∈ ([] : List (Addr × Obj)) ++ [] from hp) (by simp)⟩
  have loop : codeAny (model X.prog X.w) X.A (.compLoop (.DictComp kx vx [⟨tg, iter, ifs, 0⟩] scope pos) 0 (.ref it) (.ref D) ce) (compPost (model X.prog X.w) X.A X.xe use Qf (.ref D) sd.heap.objs.size) se := by
    refine compLoop_anyD (fun n s' => ∃ i H', Inv (X.blk sd Hd scope ce fp) [] (wipe σ (own.map (·.2))) H' s' ∧ tn i s'.heap ∧ (∀ b ∈ fp, H' b = none) ∧ Wv i n H') ?_ m0 ⟨0, Hd, Ie, ste, nfp, w0⟩
    rintro n sf ⟨i, Hf, If, stf, nf, wf⟩
    rcases turn i n Hf wf with ⟨stop, qq⟩ | ⟨go, Nx, hNx, step⟩
    · refine thnF (T.done (X.blk sd Hd scope ce fp) rfl rfl rfl hc i [] sf _ Hf (fun _ _ => False) If (stat If nf) stf stop) fun r sg ⟨hr, Ig⟩ => ?_
      subst hr
      have Ih : Inv X pins σ Hf sg := Id.call' (ch := fp) Ig.os Ig.base Ig.hok Ig.bare fun b hb => ⟨(fd b hb).1.2.2.2.1, (fd b hb).1.2.1, (fd b hb).1.2.2.2.2.1, (fd b hb).1.2.2.2.2.2⟩
      have nC : Hf sd.heap.objs.size = none := by rw [← cL]; exact Ig.free
      obtain ⟨m, hn, _⟩ := Ig.loc
      replace hn : sg.heap.Ns sd.heap.objs.size m := by rw [← cL]; exact hn
      exact back D sd.heap.objs.size sg m Hf Ih qq hn (Id.fpOk (Nat.le_refl _) nC)
    · refine thnF (T.item (X.blk sd Hd scope ce fp) rfl rfl rfl hc i [] sf _ Hf (fun _ _ => False) If (stat If nf) stf go) fun r sg ⟨u, hr, hg'⟩ => ?_
      subst hr
      refine thnF hg' fun _ sh ⟨x, Hh, Ih, rh, yh, sth, nh⟩ => ?_
      refine thnF (pg.run _ sh _ Hh x u _ (Ih.pinned (stat Ih nh) (T.obj _ _ sth)) rh (step x Hh yh)) fun _ si ⟨σi, Hi, Ii, hwi, qi⟩ => ?_
      refine thnF (pt.run _ si σi Hi _ Ii qi) fun b sj ⟨Hj, Ij, qj⟩ => ?_
      have fin : ∀ {s' : Shared} {H' : Hp}, Inv (X.blk sd Hd scope ce fp) ([] ++ pinsAt fp sh.heap) σi H' s' → Nx H' → ∃ m, m < n ∧ ∃ i H', Inv (X.blk sd Hd scope ce fp) [] (wipe σ (own.map (·.2))) H' s' ∧ tn i s'.heap ∧ (∀ b ∈ fp, H' b = none) ∧ Wv i m H' := fun {s' H'} I' nx => by
        obtain ⟨m', hm, w'⟩ := hNx H' nx
        have pin' : ∀ b ∈ fp, ∀ o, sh.heap.get? b = some o → s'.heap.get? b = some o ∧ H' b = none := fun b hb o e => by
          have z := I'.pin (b, o) (List.mem_append_right _ (List.mem_append_right _ (mem_pinsAt hb e)))
          exact ⟨z.1, z.2.1⟩
        refine ⟨m', hm, i + 1, H', (I'.unpinned (pins := [])).weak (by rw [← hwi, wipe_length]) (fun j v e => ?_), T.keep _ _ _ sth fun b hb o e => (pin' b hb o e).1, fun b hb => ?_, w'⟩
        · rw [← hwi] at e
          exact (wipe_some e).1
        · obtain ⟨o, e, _⟩ := T.obj _ _ sth b hb
          exact (pin' b hb o e).2
      cases b with
      | false =>
        simp only [Bool.false_eq_true, if_false] at qj ⊢
        exact fin Ij qj
      | true =>
        simp only [if_true] at qj ⊢
        refine thnF (pk.run _ sj σi Hj _ Ij qj) fun z sk ⟨yk, Hk, Ik, rk, qk⟩ => ?_
        refine thnF (pe.run _ sk σi Hk _ Ik qk) fun z2 sl ⟨yv, Hl, Il, rl, ql⟩ => ?_
        exact n_dictSet (X := X.blk sd Hd scope ce fp) hK hw hu Il rk rl ql fun s' H' I' nx => fin I' nx
  exact codeAny_compStart_dict loop (T.self X.A 0 _ _ _ ste loop)
theorem pe_dn {kx vx tg iter : Expr} {ifs : List Expr} {scope : Scope} {own : List (Str × Nat)} {wi : TI} {g : TG} {tt : TT} {tk tv : TE} (hK : X.K = W.K) (hw : X.w = W.w) (hu : X.A.units + 64 < cLine) (hc : X.calm = true) (hN : X.N.Nodup) (hi : PI X tg iter wi) (ok : BlkOk X.N X.env.scope scope own)
    (hg : ∀ s H C cl fp, PG (X.blk s H scope (compEnvC scope cl C X.env) fp) tg g) (ht : ∀ s H C cl fp, PTs (X.blk s H scope (compEnvC scope cl C X.env) fp) ifs tt)
    (hk : ∀ s H C cl fp, PE (X.blk s H scope (compEnvC scope cl C X.env) fp) kx tk)
    (he : ∀ s H C cl fp, PE (X.blk s H scope (compEnvC scope cl C X.env) fp) vx tv) (hs : ∀ x, foldedSetIterable iter X.env x = pure x) :
    PE X (.DictComp kx vx [⟨tg, iter, ifs, 0⟩] scope pos) (tDn W wi g tt tk tv (own.map (·.2))) := by
  refine ⟨fun pins s σ H Q I h => ?_⟩
  rw [arm_eval_DictComp]
  refine dn_core hK hw hu hc hN I hi ok hg ht hk he hs h fun D C s' m H' I' q hn ⟨f0, f1, f2, f3, f4, f5⟩ => ⟨m, hn, fun h'' sb => ?_⟩
  exact ⟨.ref D, H', I'.turned (t' := s'.toks) (fun b o hb e => (sb.2 b hb).trans e) f0 f1 f3 f4 f5, rfl, q⟩
/-- what a loop that fills a dict keeps -/
structure FillK (W : Wd) (B : Addr → Prop) (D : Addr) (st1 : Store) (H1 : Hp) (st2 : Store) (H2 : Hp) (kvs : List (G.D × G.D)) : Prop where
  at_ : ∃ es ep, H2 D = some (.ext (RawD D es ep)) ∧ RepK W (Hide B D) st2 H2 es kvs
  nd : (kvs.map fun p => nk p.1).Nodup
  rh : RH W (Hide B D) st2 H2
  gro : ∀ a o, st1 a = none → a ≠ D → H1 a = some o → nt o → st2 a = none ∧ H2 a = some o
section
variable {B : Addr → Prop} {D : Addr} {st1 st2 st3 : Store} {H1 H2 H3 : Hp} {kvs : List (G.D × G.D)}
theorem FillK.out (f : FillK W B D st1 H1 st2 H2 kvs) : Gro (Hide B D) st1 H1 st2 H2 := fun a o e1 e2 e3 n => f.gro a o e1 (fun z => e2 (.inr z)) e3 n
theorem FillK.none (f : FillK W B D st1 H1 st2 H2 kvs) : st2 D = Option.none := (f.rh.hid D (.inr rfl)).1
theorem FillK.grow (f : FillK W B D st1 H1 st2 H2 kvs) (g : Grow st2 H2 st3 H3) (o : RH W (Hide B D) st3 H3) : FillK W B D st1 H1 st3 H3 kvs := by
  obtain ⟨es, ep, e, l⟩ := f.at_
  exact ⟨⟨es, ep, (g D _ f.none e trivial).2, l.grow g⟩, f.nd, o, fun a u e1 e2 e3 n => let ⟨z1, z2⟩ := f.gro a u e1 e2 e3 n; g a u z1 z2 n⟩
theorem FillK.same (f : FillK W B D st1 H1 st2 H2 kvs) (s : Same H2 H3) : FillK W B D st1 H1 st2 H3 kvs := f.grow (Grow.same s) (f.rh.same s)
theorem FillK.set {es' : List DictEntry} {ep' : Nat} {kvs' : List (G.D × G.D)} (f : FillK W B D st1 H1 st2 H2 kvs) (l : RepK W (Hide B D) st2 H2 es' kvs') (n : (kvs'.map fun p => nk p.1).Nodup) : FillK W B D st1 H1 st2 (upd H2 D (.ext (RawD D es' ep'))) kvs' :=
  ⟨⟨es', ep', upd_same, l.gro (Gro.hidden (.inr rfl))⟩, n, f.rh.bump (.inr rfl), fun a o e1 e2 e3 n => let ⟨z1, z2⟩ := f.gro a o e1 e2 e3 n; ⟨z1, by rw [upd_ne e2]; exact z2⟩⟩
theorem FillK.start (o1 : RH W B st1 H1) (hD : H1 D = Option.none) : FillK W B D st1 H1 st1 (upd H1 D (.ext (RawD D [] 0))) [] :=
  ⟨⟨[], 0, upd_same, .nil⟩, List.nodup_nil, o1.hideNew hD, fun a o e1 e2 e3 _ => ⟨e1, by rw [upd_ne e2]; exact e3⟩⟩
end
def turnK (p : Pt) (own : List Nat) (mk mv : M) (ρ : Env) : G.D → Store → List (G.D × G.D) → (List (G.D × G.D) → Store → Prop) → Prop := fun d st kvs k =>
  asg p d (wipeE ρ own) fun ρ1 => mk ρ1 st fun y st1 => mv ρ1 st1 fun z st2 => isKey y = true ∧ kvs.length < sizeLine ∧ k (put kvs y z) st2
theorem dctc_lift {own : List Nat} {mi : MI} {mk mv : M} {p : Pt} (hp : ∀ i ∈ p.slots, i ∈ own) (σ : L2.St) (H : Hp) (Q : VK)
    (hL : LP W (fun ρ st Q => mi ρ st fun ds C st1 => turnsA C (turnK p own mk mv ρ) ds st1 ([] : List (G.D × G.D)) fun kvs st2 => ∀ ep, Q (.dct kvs ep) st2) σ H Q) :
    tDn W (LI W mi) (LG W p) (LT W fun _ st Q => Q (.bl true) st) (LE W mk) (LE W mv) own σ H Q := by
  obtain ⟨B, ρ, st, P, r, h, q⟩ := hL
  refine ⟨B, ρ, st, _, r, h, fun ds C st1 J H1 h1 wk o1 g1 => ?_⟩
  intro D hD hsys
  have nBD : ¬ B D := (o1.free hD).2
  have lB : ∀ a, Hide B D a → B a ∨ H1 a = none := fun a z => z.elim .inl fun e => .inr (by rw [e]; exact hD)
  have f0 := FillK.start (D := D) o1 hD
  have r1 : R W (Hide B D) ρ st1 σ (upd H1 D (.ext (RawD D [] 0))) := (r.step g1 o1).hideNew hD
  refine ⟨fun i m H2 => i ≤ ds.length ∧ m = ds.length - i ∧ ∃ (st2 : Store) (kvs : List (G.D × G.D)), FillK W B D st1 H1 st2 H2 kvs ∧ R W (Hide B D) ρ st2 σ H2 ∧
    turnsA C (turnK p own mk mv ρ) (ds.drop i) st2 kvs fun kvs st2 => ∀ ep, P (.dct kvs ep) st2, ⟨ds.length, Nat.zero_le _, rfl, st1, [], f0, r1, h1⟩, ?_⟩
  rintro i m H2 ⟨hi, rfl, st2, kvs, f2, r2, hT⟩
  obtain ⟨wg, ws, wy⟩ := wk (Hide B D) st2 H2 lB f2.out f2.rh (turnsA_C hT)
  by_cases hlt : i < ds.length
  · refine .inr ⟨wg i hlt, fun H' => ∃ (st2 : Store) (kvs : List (G.D × G.D)), FillK W B D st1 H1 st2 H' kvs ∧ R W (Hide B D) ρ st2 σ H' ∧
      turnsA C (turnK p own mk mv ρ) (ds.drop (i + 1)) st2 kvs fun kvs st2 => ∀ ep, P (.dct kvs ep) st2, fun H' z => ⟨ds.length - (i + 1), by omega, hlt, rfl, z⟩, fun x H3 hy => ?_⟩
    obtain ⟨rx, sm⟩ := wy i ds[i] x H3 (List.getElem?_eq_getElem hlt) hy
    rw [List.drop_eq_getElem_cons hlt] at hT
    replace hT := hT.2
    have f3 := f2.same sm
    have r3 := (r2.same sm)
    refine ⟨Hide B D, _, st2, ds[i], _, r3.wipe _, rx, hT, fun ρ1 σ1 hm r4 hw => ⟨(hw own hp).trans wipe2, ?_⟩⟩
    refine ⟨Hide B D, ρ1, st2, fun t st' => t = .bl true ∧ mk ρ1 st' fun y st1 => mv ρ1 st1 fun z st2 => isKey y = true ∧ kvs.length < sizeLine ∧ turnsA C (turnK p own mk mv ρ) (ds.drop (i + 1)) st2 (put kvs y z) fun kvs st2 => ∀ ep, P (.dct kvs ep) st2, r4, ⟨rfl, hm⟩, fun t st3 H4 ⟨e3, h3⟩ o4 g4 => ⟨true, e3, ?_⟩⟩
    simp only [if_true]
    refine ⟨Hide B D, ρ1, st3, _, r4.step g4 o4, h3, fun y st5 v5 H5 h5 r5 o5 g5 => ?_⟩
    refine ⟨Hide B D, ρ1, st5, _, (r4.step g4 o4).step g5 o5, h5, fun z st6 v6 H6 ⟨hy, hz, hk⟩ r6 o6 g6 => ?_⟩
    obtain ⟨b, rfl⟩ := key_ref hy r5
    have f6 := ((f3.grow g4 o4).grow g5 o5).grow g6 o6
    obtain ⟨es, ep, at_, l⟩ := f6.at_
    have r7 : R W (Hide B D) ρ st6 σ H6 := ((r3.step g4 o4).step g5 o5).step g6 o6
    exact ⟨Hide B D, st6, b, y, z, kvs, es, ep, rfl, r5.grow g6, r6, at_, l, f6.nd, hy, hz, fun es' ep' l' n' => ⟨st6, put kvs y z, f6.set l' n', r7.gro (Gro.hidden (.inr rfl)) (f6.rh.bump (.inr rfl)), hk⟩⟩
  · have e : i = ds.length := by omega
    subst e
    rw [List.drop_length] at hT
    refine .inl ⟨ws, ?_⟩
    obtain ⟨es, ep, at_, l⟩ := f2.at_
    have z := q (.dct kvs ep) st2 (cut H2 D) D (.ext (RawD D es ep)) (hT.2 ep) (if_pos rfl) ⟨es, rfl, hsys, l.cut1, f2.nd⟩ (f2.rh.unhide nBD) (fun a o e1 e2 n => ?_)
    · rw [upd_cut at_] at z
      exact z
    · obtain ⟨z1, z2⟩ := g1 a o e1 e2 n
      have ne : a ≠ D := fun q => by rw [q, hD] at z2; cases z2
      obtain ⟨z3, z4⟩ := f2.gro a o z1 ne z2 n
      exact ⟨z3, by rw [cut_ne ne]; exact z4⟩
theorem p_dctc {kx vx tg iter : Expr} {scope : Scope} {own : List (Str × Nat)} {mi : MI} {mk mv : M} {p : Pt} (hK : X.K = W.K) (hw : X.w = W.w) (hu : X.A.units + 64 < cLine) (hc : X.calm = true) (hN : X.N.Nodup) (hi : PI X tg iter (LI W mi)) (ok : BlkOk X.N X.env.scope scope own)
    (hg : ∀ s H C cl fp, PG (X.blk s H scope (compEnvC scope cl C X.env) fp) tg (LG W p)) (hp : ∀ i ∈ p.slots, i ∈ own.map (·.2))
    (hk : ∀ s H C cl fp, PE (X.blk s H scope (compEnvC scope cl C X.env) fp) kx (LE W mk))
    (he : ∀ s H C cl fp, PE (X.blk s H scope (compEnvC scope cl C X.env) fp) vx (LE W mv)) (hs : ∀ x, foldedSetIterable iter X.env x = pure x) :
    PE X (.DictComp kx vx [⟨tg, iter, [], 0⟩] scope pos) (LP W fun ρ st Q => mi ρ st fun ds C st1 => turnsA C (turnK p (own.map (·.2)) mk mv ρ) ds st1 ([] : List (G.D × G.D)) fun kvs st2 => ∀ ep, Q (.dct kvs ep) st2) :=
  (pe_dn hK hw hu hc hN hi ok hg (fun _ _ _ _ _ => ts_nil) hk he hs).mono (dctc_lift hp)
end
end G
/-! for k in d; for k, v in d.items(). -/
namespace G
open PySem PySem.Spec PyProof.Rows L2
/-- the keys of the raw dict at d -/
def Ikn (d : Addr) (n ep : Nat) : L2.It :=
  ⟨fun i H => i < n ∧ ∃ es : List DictEntry, es.length = n ∧ H d = some (.ext (RawD d es ep)) ∧ ∀ e ∈ es, ∃ k, RelV k e.key,
   fun i H x H' => H' = H ∧ ∀ es : List DictEntry, H d = some (.ext (RawD d es ep)) → ∃ e, es[i]? = some e ∧ RelV x e.key,
   fun i H => n ≤ i ∧ ∃ es : List DictEntry, es.length = n ∧ H d = some (.ext (RawD d es ep))⟩
/-- its pairs, each a new tuple -/
def Iin (d : Addr) (n ep : Nat) : L2.It :=
  ⟨fun i H => i < n ∧ ∃ es : List DictEntry, es.length = n ∧ H d = some (.ext (RawD d es ep)) ∧ ∀ e ∈ es, (∃ k, RelV k e.key) ∧ ∃ v, RelV v e.val,
   fun i H x H' => ∃ T k v, x = .ref T ∧ H T = none ∧ H' = upd H T (.tup [k, v]) ∧ ∀ es : List DictEntry, H d = some (.ext (RawD d es ep)) → ∃ e, es[i]? = some e ∧ RelV k e.key ∧ RelV v e.val,
   fun i H => n ≤ i ∧ ∃ es : List DictEntry, es.length = n ∧ H d = some (.ext (RawD d es ep))⟩
section
variable {P : Program} {w : World} {K : PySem.W.Frag} {tg : Expr} {d : Addr} {n ep : Nat}
theorem raw_eq {X : Cx} {pins : List (Addr × Obj)} {σ : L2.St} {H : Hp} {s : Shared} {es es' : List DictEntry} (I : Inv X pins σ H s) (h : H d = some (.ext (RawD d es ep))) (h' : H d = some (.ext (RawD d es' ep))) : es' = es := by
  obtain ⟨o, a1, _, a3⟩ := raw_of I h
  obtain ⟨o', b1, _, b3⟩ := raw_of I h'
  rw [a1] at b1; cases b1
  rw [a3] at b3
  cases b3
  rfl
theorem turn_kn (it : Addr) : Turn P w K tg (Ikn d n ep) [it] it (fun i h => h.IsKeyIter it d i n ep) where
  mem := List.mem_singleton_self _
  obj := fun i h st b hb => by
    cases List.mem_singleton.mp hb
    obtain ⟨oi, e, c, dd⟩ := st
    exact ⟨oi, e, fun v z => by rw [dd] at z; cases z⟩
  keep := fun i h h' st k => st.at fun oi e => k it (List.mem_singleton_self _) oi e
  item := by
    intro X hP hw hK hc i pins s σ H E I hf st ⟨hi, es, hn, hd, hk⟩
    subst hP hw hK hn
    obtain ⟨f0, f1, f2, f3, f4, f5⟩ := hf it (List.mem_singleton_self _)
    have hm := raw_of I hd
    have hi' : i < es.toArray.size := by simpa using hi
    refine wpAny_pyNext_keys_item_raw (es := es.toArray) (by simpa using st) hm hi' fun h' st' sb => ?_
    have J : Inv X pins σ H { s with heap := h' } := I.turned (t' := s.toks) (fun b ob hb e => (sb.2 b hb).trans e) f0 f1 f3 f4 f5
    obtain ⟨oi, e, c, dd⟩ := id st'
    have he : es[i]? = some es[i] := List.getElem?_eq_getElem hi
    obtain ⟨k, rk⟩ := hk es[i] (List.getElem_mem hi)
    have e2 : es.toArray[i] = es[i] := by simp
    rw [e2]
    exact ⟨_, rfl, go_of (s := { s with heap := h' }) e c dd (by decide) ⟨k, H, J, rk, ⟨rfl, fun es' h2 => by rw [raw_eq I hd h2]; exact ⟨_, he, rk⟩⟩, by simpa using st', fun b hb => (hf b hb).1⟩⟩
  done := by
    intro X hP hw hK hc i pins s σ H E I hf st ⟨hi, es, hn, hd⟩
    subst hP hw hK hn
    obtain ⟨f0, f1, f2, f3, f4, f5⟩ := hf it (List.mem_singleton_self _)
    exact wpAny_pyNext_keys_end_raw (es := es.toArray) (I.ok.hd hc) (by simpa using st) (raw_of I hd) (by simpa using hi) fun h' eb => ⟨rfl, I.turned (t' := s.toks) (fun b ob hb e => eb b ob hb e) f0 f1 f3 f4 f5⟩
  self := fun A i s Q E st h => wpAny_pyIter_keyiter st h
theorem turn_in {elts : List Expr} {kk : Nat} {tpos : Pos} (it : Addr) : Turn P w K (.Tuple elts kk tpos) (Iin d n ep) [it] it (fun i h => ∃ x y, IsItemIter h it d i n ep x y) where
  mem := List.mem_singleton_self _
  obj := fun i h st b hb => by
    cases List.mem_singleton.mp hb
    obtain ⟨x, y, e⟩ := st
    exact ⟨_, e, fun v z => nomatch z⟩
  keep := fun i h h' st k => let ⟨x, y, e⟩ := st; ⟨x, y, k it (List.mem_singleton_self _) _ e⟩
  item := by
    intro X hP hw hK hc i pins s σ H E I hf st ⟨hi, es, hn, hd, hk⟩
    subst hP hw hK hn
    have hm := raw_of I hd
    have hi' : i < es.toArray.size := by simpa using hi
    obtain ⟨x, y, he⟩ := st
    have hlt : it < s.heap.objs.size := Heap.lt_size he
    refine wpAny_pyNext_items_item_raw (es := es.toArray) (by simpa using he) hm hi' fun h' ho hT hz hkk => ?_
    have hes : es[i]? = some es[i] := List.getElem?_eq_getElem hi
    obtain ⟨⟨k, rk⟩, v, rv⟩ := hk es[i] (List.getElem_mem hi)
    have e2 : es.toArray[i] = es[i] := by simp
    rw [e2] at ho hT
    refine ⟨_, rfl, wpAny_letOwnedTupleGo_items (s := { s with heap := h' }) ho fun h'' he' sb => ?_⟩
    have hT2 : h''.get? s.heap.objs.size = some { cls := .type "tuple", data := .seq #[es[i].key, es[i].val] } := (sb.2 _ (Nat.ne_of_gt hlt)).trans hT
    have new : ObjOk X.prog X.w (upd H s.heap.objs.size (.tup [k, v])) h'' s.heap.objs.size (.tup [k, v]) := ⟨by show 2 ≤ sizeLine; decide, [es[i].key, es[i].val], .cons rk (.cons rv .nil), ⟨_, hT2, rfl, _, rfl⟩⟩
    have J : Inv X pins σ (upd H s.heap.objs.size (.tup [k, v])) { s with heap := h'' } :=
      I.turnedNew (t' := s.toks) (ch := [it]) (fun b ob hb e => (sb.2 b (fun z => hb (List.mem_singleton.mpr z))).trans (hkk b ob (fun z => hb (List.mem_singleton.mpr z)) e)) hf (Nat.le_refl _) new
    refine ⟨.ref s.heap.objs.size, _, J, rfl, ⟨_, k, v, rfl, I.hok.fresh (Nat.le_refl _), rfl, fun es' h2 => by rw [raw_eq I hd h2]; exact ⟨_, hes, rk, rv⟩⟩, ⟨es[i].key, es[i].val, by simpa using he'⟩, fun b hb => ?_⟩
    cases List.mem_singleton.mp hb
    rw [upd_ne (Nat.ne_of_lt hlt)]
    exact (hf it (List.mem_singleton_self _)).1
  done := by
    intro X hP hw hK hc i pins s σ H E I hf st ⟨hi, es, hn, hd⟩
    subst hP hw hK hn
    obtain ⟨f0, f1, f2, f3, f4, f5⟩ := hf it (List.mem_singleton_self _)
    obtain ⟨x, y, he⟩ := st
    exact wpAny_pyNext_items_end_raw (es := es.toArray) (I.ok.hd hc) (by simpa using he) (raw_of I hd) (by simpa using hi) fun h' eb => ⟨rfl, I.turned (t' := s.toks) (fun b ob hb e => eb b ob hb e) f0 f1 f3 f4 f5⟩
  self := fun A i s Q E st h => let ⟨_, _, e⟩ := st; PySem.W.kcp_self e h
end
section
variable {X : Cx} {W : Wd} {pos apos : Pos}
theorem RepK.ent {B : Addr → Prop} {st : Store} {H : Hp} : ∀ {es : List DictEntry} {kvs : List (D × D)}, RepK W B st H es kvs → ∀ (i : Nat) (e : DictEntry), es[i]? = some e → ∃ k d b v, kvs[i]? = some (k, d) ∧ e.key = .ref b ∧ Rep W B st H (.ref b) k ∧ RelV v e.val ∧ Rep W B st H v d
  | _, _, .nil, i, e, h => by simp at h
  | _, _, .cons h1 h2 h3 h4 h5 t, 0, e, h => by simp at h; subst h; exact ⟨_, _, _, _, rfl, rfl, h3, h4, h5⟩
  | _, _, .cons h1 h2 h3 h4 h5 t, i + 1, e, h => by
    obtain ⟨k, d, b, v, a, z⟩ := RepK.ent t i e (by simpa using h)
    exact ⟨k, d, b, v, by simpa using a, z⟩
theorem RepK.each {B : Addr → Prop} {st : Store} {H : Hp} {es : List DictEntry} {kvs : List (D × D)} (l : RepK W B st H es kvs) : ∀ e ∈ es, (∃ k, RelV k e.key) ∧ ∃ v, RelV v e.val := fun e he => by
  obtain ⟨i, hi⟩ := List.mem_iff_getElem?.mp he
  obtain ⟨k, d, b, v, _, e1, _, e2, _⟩ := l.ent i e hi
  exact ⟨⟨.ref b, e1⟩, v, e2⟩
/-- what stands at each turn -/
def AtD (W : Wd) (a : Addr) (n ep : Nat) (kvs : List (D × D)) (B : Addr → Prop) (st : Store) (H : Hp) : Prop := kvs.length = n ∧ ∃ es, H a = some (.ext (RawD a es ep)) ∧ RepK W B st H es kvs
theorem wk_keys {B : Addr → Prop} {st : Store} {H : Hp} {a : Addr} {n ep : Nat} {kvs : List (D × D)} {C : Store → Prop} (h : ∀ B' st' H', (∀ a, B' a → B a ∨ H a = none) → Gro B' st H st' H' → RH W B' st' H' → C st' → AtD W a n ep kvs B' st' H') :
    Wk W B (Ikn a n ep) st H (kvs.map fun p => p.1) C := by
  intro B' st' H' lb g o c
  obtain ⟨hn, es, f, l⟩ := h B' st' H' lb g o c
  have hl := l.length
  refine ⟨fun i hi => ⟨by rw [List.length_map] at hi; omega, es, by omega, f, fun e he => (l.each e he).1⟩, ⟨by rw [List.length_map]; omega, es, by omega, f⟩, fun i d x H'' hd ⟨e1, y⟩ => ?_⟩
  subst e1
  obtain ⟨e, he, rx⟩ := y es f
  obtain ⟨k, d', b, v, e2, e3, e4, _⟩ := l.ent i e he
  rw [List.getElem?_map, e2] at hd
  cases hd
  rw [e3] at rx
  cases RelV.inj rx (y := .ref b) rfl
  exact ⟨e4, Same.refl _⟩
theorem wk_items {B : Addr → Prop} {st : Store} {H : Hp} {a : Addr} {n ep : Nat} {kvs : List (D × D)} {C : Store → Prop} (h : ∀ B' st' H', (∀ a, B' a → B a ∨ H a = none) → Gro B' st H st' H' → RH W B' st' H' → C st' → AtD W a n ep kvs B' st' H') :
    Wk W B (Iin a n ep) st H (kvs.map fun p => .pr p.1 p.2) C := by
  intro B' st' H' lb g o c
  obtain ⟨hn, es, f, l⟩ := h B' st' H' lb g o c
  have hl := l.length
  refine ⟨fun i hi => ⟨by rw [List.length_map] at hi; omega, es, by omega, f, l.each⟩, ⟨by rw [List.length_map]; omega, es, by omega, f⟩, fun i d x H'' hd ⟨T, u, v, e1, hT, e5, y⟩ => ?_⟩
  subst e1 e5
  obtain ⟨e, he, ru, rv⟩ := y es f
  obtain ⟨k, d', b, v', e2, e3, e4, e6, e7⟩ := l.ent i e he
  rw [List.getElem?_map, e2] at hd
  cases hd
  rw [e3] at ru
  cases RelV.inj ru (y := .ref b) rfl
  cases RelV.inj rv e6
  exact pair_rep o hT e4 e7
theorem at_dct {B : Addr → Prop} {st : Store} {H : Hp} {a : Addr} {es : List DictEntry} {ep : Nat} {kvs : List (D × D)} (z : Still B st a) (f : H a = some (.ext (RawD a es ep))) (l : RepK W B st H es kvs) :
    ∀ B' st' H', (∀ a, B' a → B a ∨ H a = none) → Gro B' st H st' H' → RH W B' st' H' → CT st' → AtD W a kvs.length ep kvs B' st' H' := fun B' st' H' lb g o _ =>
  ⟨rfl, es, ((z.re lb f).grow g f).2, (l.re lb).gro g⟩
theorem at_loc {B : Addr → Prop} {st : Store} {H : Hp} {a : Addr} {ep : Nat} {kvs : List (D × D)} :
    ∀ B' st' H', (∀ a, B' a → B a ∨ H a = none) → Gro B' st H st' H' → RH W B' st' H' → CD a kvs ep st' → AtD W a kvs.length ep kvs B' st' H' := fun B' st' H' lb g o e => by
  obtain ⟨es, f, _, l, _⟩ := o.ob _ _ e
  exact ⟨rfl, es, f, l⟩
theorem i_keys {tg e : Expr} {m : M} (he : PE X e (LE W m)) : PI X tg e (LI W fun ρ st Q => m ρ st fun x st1 => (∃ kvs, x = .dct kvs ∧ Q (kvs.map fun p => p.1) CT st1) ∨ ∃ a kvs ep, x = .loc a ∧ st1 a = some (.dct kvs ep) ∧ Q (kvs.map fun p => p.1) (CD a kvs ep) st1) := by
  refine ⟨fun pins s σ H R I ⟨B, ρ, st, P, r, h, q⟩ => ?_⟩
  refine thn (he.run pins s σ H _ I (le_go r h)) fun u s1 ⟨v, H1, J, rx, d, st1, h1, r1, o1, g1⟩ => ?_
  have go : ∀ {a : Addr} {es : List DictEntry} {ep : Nat} {kvs : List (D × D)} {C : Store → Prop}, v = .ref a → H1 a = some (.ext (RawD a es ep)) → (a == sysModules) = false → es.length = kvs.length → Wk W B (Ikn a kvs.length ep) st1 H1 (kvs.map fun p => p.1) C → P (kvs.map fun p => p.1) C st1 →
      wpAny (model X.prog X.w) X.A (pyIter u) (PIE X pins σ tg R) X.xe s1 := fun {a es ep kvs C} e f hs hl wk hp => by
    subst e
    cases (show u = Value.ref a from rx)
    refine wpAny_pyIter_dict_raw (es := es.toArray) (ep := ep) hs (raw_of J f) (pi_one (tk := s1.toks) J _ (turn_kn (d := a) (n := kvs.length) (ep := ep) _) ⟨_, Heap.get?_push_size _ rfl, rfl, ?_⟩ (q _ _ _ _ _ hp wk o1 g1))
    rw [← hl]
    simp
  rcases h1 with ⟨kvs, rfl, hp⟩ | ⟨a, kvs, ep, rfl, e, hp⟩
  · cases r1 with
    | dct z f hs l n => exact go rfl f hs l.length (wk_keys (at_dct z f l)) hp
  · cases r1
    obtain ⟨es, f, hs, l, n⟩ := o1.ob _ _ e
    exact go rfl f hs l.length (wk_keys at_loc) hp
theorem i_items {o : Expr} {elts : List Expr} {kk : Nat} {tpos : Pos} {m : M} (hK : X.K = W.K) (hw : X.w = W.w) (ho : PE X o (LE W m)) (hb : ∀ w, attributeBase o "items" X.env w = w) (hl : (apos.endLine == pos.line) = true) : PI X (.Tuple elts kk tpos) (.Call (.Attribute o "items" apos) [] [] pos)
    (LI W fun ρ st Q => m ρ st fun x st1 => (∃ kvs, x = .dct kvs ∧ Q (kvs.map fun p => .pr p.1 p.2) CT st1) ∨ ∃ a kvs ep, x = .loc a ∧ st1 a = some (.dct kvs ep) ∧ Q (kvs.map fun p => .pr p.1 p.2) (CD a kvs ep) st1) := by
  refine ⟨fun pins s σ H R I ⟨B, ρ, st, P, r, h, q⟩ => ?_⟩
  refine wpAny_Call_method0_late (hb _) hl (thn (ho.run pins s σ H _ I (le_go r h)) fun u s1 ⟨v, H1, J, rx, d, st1, h1, r1, o1, g1⟩ => ?_)
  have hx : ∃ (a : Addr) (es : List DictEntry) (ep : Nat) (kvs : List (D × D)) (C : Store → Prop), dctOf st1 d = some kvs ∧ v = .ref a ∧ H1 a = some (.ext (RawD a es ep)) ∧ es.length = kvs.length ∧ Wk W B (Iin a kvs.length ep) st1 H1 (kvs.map fun p => .pr p.1 p.2) C ∧ P (kvs.map fun p => .pr p.1 p.2) C st1 := by
    rcases h1 with ⟨kvs, rfl, hp⟩ | ⟨a, kvs, ep, rfl, e, hp⟩
    · cases r1 with
      | dct z f hs l n => exact ⟨_, _, _, kvs, _, rfl, rfl, f, l.length, wk_items (at_dct z f l), hp⟩
    · cases r1
      obtain ⟨es, f, hs, l, n⟩ := o1.ob _ _ e
      exact ⟨a, es, ep, kvs, _, by show (match st1 a with | some (.dct xs _) => some xs | _ => none) = _; rw [e], rfl, f, l.length, wk_items at_loc, hp⟩
  obtain ⟨a, es, ep, kvs, C, e1, e, f, hln, wk, hp⟩ := hx
  obtain ⟨a', l, ep', ev, -, f', hs, -, hm, t1, t2⟩ := dct_at hK hw J o1 r1 e1 rx
  subst e
  cases ev
  cases (show u = Value.ref a from rx)
  refine ⟨"dict", "dict.items", PySem.F.plainAttrs_dict, PySem.F.slot_dict_items, PySem.F.type_dict_items, t1, t2, Calls.callWith_builtin rfl (PySem.evalArgs_none ?_)⟩
  refine DT.callItems (es := es.toArray) (ep := ep) hs (raw_of J f) ?_
  have J2 : Inv X pins σ H1 { s1 with heap := s1.heap.push { cls := .type "dict_items", data := .fields #[.ref a] } } := J.kept (t' := s1.toks) fun b ob q => Heap.get?_push_of_some _ q
  refine wpAny_pyIter_items_raw (d := a) (es := es.toArray) (ep := ep) ⟨_, Heap.get?_push_size _ rfl, rfl, rfl⟩ (raw_of J2 f) (pi_one (tk := s1.toks) J2 _ (turn_in (d := a) (n := kvs.length) (ep := ep) _) ⟨.none, .none, ?_⟩ (q _ _ _ _ _ hp wk o1 g1))
  rw [← hln]
  exact (Heap.get?_push_size _ rfl).trans (by simp)
end
end G
/-! The checker is right: expressions. -/
namespace G
open PySem PySem.Spec PyProof.Rows L2 C8
section
variable {Γ : Ctx} {W : Wd} {κ : Kx}
theorem gl_ne {X : Cx} (ok : ∃ sc, Okk Γ W κ sc X) : True := trivial
theorem supW {X : Cx} {o : Expr} {a : Str} (h : supB o = true) : ∀ w, attributeBase o a X.env w = w := sup_no h
theorem boot_ty (t : Ty) (h : tyName t ≠ "") : bootBuiltins (Str.ofString (tyName t)) = some (.type (tyName t)) ∧ Str.ofString (tyName t) ∈ bnames := by
  cases t
  · exact ⟨by show bootBuiltins (Str.ofString "int") = _; decide +kernel, by show Str.ofString "int" ∈ _; decide +kernel⟩
  · exact ⟨by show bootBuiltins (Str.ofString "bool") = _; decide +kernel, by show Str.ofString "bool" ∈ _; decide +kernel⟩
  · exact ⟨by show bootBuiltins (Str.ofString "str") = _; decide +kernel, by show Str.ofString "str" ∈ _; decide +kernel⟩
  · exact ⟨by show bootBuiltins (Str.ofString "tuple") = _; decide +kernel, by show Str.ofString "tuple" ∈ _; decide +kernel⟩
  · exact ⟨by show bootBuiltins (Str.ofString "list") = _; decide +kernel, by show Str.ofString "list" ∈ _; decide +kernel⟩
  · exact (h rfl).elim
theorem isi_1 {sc : Scope} {X : Cx} (ok : Okk Γ W κ sc X) {x : Expr} {ma : M} {f t : Str} {p1 p2 pos : Pos} {ts : List Ty} (ha : PE X x (LE W ma)) (hf : f = "isinstance") (hg : glB sc f = true) (hp : plB x = true)
    (ht : tysB1 sc t ts = true) :
    PE X (.Call (.Name f p1) [x, .Name t p2] [] pos) (LE W fun ρ st Q => ma ρ st fun y st1 => match isTys ts (rsv st1 y) with | some b => Q (.bl b) st1 | none => False) := by
  subst hf
  unfold tysB1 at ht
  split at ht <;> try cases ht
  rename_i u
  simp only [Bool.and_eq_true, decide_eq_true_eq] at ht
  obtain ⟨⟨rfl, h2⟩, h3⟩ := ht
  obtain ⟨b1, b2⟩ := boot_ty u h2
  exact s_isi1 ok.fx.K (ok.gl hg) (ok.bn) (ok.gl h3) (ok.fx.bn _ b2) b1 (bn_mem b2).2 (bn_mem b2).1 ha (star_pl hp)
theorem isi_2 {sc : Scope} {X : Cx} (ok : Okk Γ W κ sc X) {x : Expr} {ma : M} {f t t' : Str} {p1 p2 p3 p4 pos : Pos} {kk : Nat} {ts : List Ty} (ha : PE X x (LE W ma)) (hf : f = "isinstance") (hg : glB sc f = true) (hp : plB x = true)
    (ht : tysB2 sc t t' ts = true) :
    PE X (.Call (.Name f p1) [x, .Tuple [.Name t p2, .Name t' p3] kk p4] [] pos) (LE W fun ρ st Q => ma ρ st fun y st1 => match isTys ts (rsv st1 y) with | some b => Q (.bl b) st1 | none => False) := by
  subst hf
  unfold tysB2 at ht
  split at ht <;> try cases ht
  rename_i u u'
  simp only [Bool.and_eq_true, decide_eq_true_eq] at ht
  obtain ⟨⟨⟨⟨⟨rfl, h2⟩, h3⟩, rfl⟩, h5⟩, h6⟩ := ht
  obtain ⟨b1, b2⟩ := boot_ty u h2
  obtain ⟨c1, c2⟩ := boot_ty u' h5
  exact s_isi2 ok.fx.K (ok.gl hg) (ok.bn) (ok.gl h3) (ok.fx.bn _ b2) b1 (bn_mem b2).2 (bn_mem b2).1 (ok.gl h6) (ok.fx.bn _ c2) c1 (bn_mem c2).2 (bn_mem c2).1 ha (star_pl hp)
/-- calls of defs -/
theorem call_any {sc : Scope} {X : Cx} (ok : Okk Γ W κ sc X) {f : Str} {p pos : Pos} {es : Es} {l : List Expr} (hf : f ∈ κ.fns) (hg : glB sc f = true) (hn : nameOk f = true) (hl : chEs κ sc es l = true) (ha : PA X l (LA W (denEs Γ X0 es))) :
    PE X (.Call (.Name f p) l [] pos) (LE W (den Γ X0 (.call f es))) := by
  obtain ⟨sp, e⟩ := ok.fns f hf
  obtain ⟨k, ⟨a, fd, ps, ds, F, hm, hk, hb, hv⟩, hr⟩ := ok.fx.fn f sp e
  cases hv
  have hs := pl_star es l hl
  cases l with
  | nil =>
    cases es with
    | nil => exact PE.to (s_call0 F hr (ok.gl hg) hm hk hb (name_of hn).1) (by funext ρ st Q; rw [den, denEs, e])
    | cons _ _ => simp [chEs] at hl
  | cons x xs =>
    refine PE.to (s_call F hr (ok.gl hg) hm hk hb ha (name_of hn).1 ?_ ?_) (by funext ρ st Q; rw [den, e])
    · cases es with
      | nil => simp [chEs] at hl
      | cons e es => unfold chEs at hl; simp only [Bool.and_eq_true] at hl; exact star_pl hl.1.1
    · cases es with
      | nil => simp [chEs] at hl
      | cons e es => unfold chEs at hl; simp only [Bool.and_eq_true] at hl; rw [pl_star es xs hl.2]; exact backTo_any
theorem mcl_any {sc : Scope} {X : Cx} (ok : Okk Γ W κ sc X) {c m : Str} {p pos : Pos} {o : E} {v : Expr} {es : Es} {l : List Expr} (hf : (c, m) ∈ κ.mes) (hi : m ≠ "__init__") (hsup : supB v = true) (hpl : (p.endLine == pos.line) = true) (hlen : l.length < 29)
    (ho : PE X v (LE W (den Γ X0 o))) (hl : chEs κ sc es l = true) (ha : PA X l (LA W (denEs Γ X0 es))) :
    PE X (.Call (.Attribute v m p) l [] pos) (LE W (den Γ X0 (.mcl c m o es))) := by
  obtain ⟨sp, e⟩ := ok.mes c m hf
  obtain ⟨C, k, hc, ⟨a, fd, ps, ds, cl, me, F, hb, hv⟩, hr⟩ := ok.fx.me c m sp e hi
  cases hv
  have hs := pl_star es l hl
  cases l with
  | nil =>
    cases es with
    | nil => exact PE.to (s_mcl0 ho hc cl me F hr hb (supW hsup) hpl) (by funext ρ st Q; rw [den]; simp only [denEs, e])
    | cons _ _ => simp [chEs] at hl
  | cons x xs =>
    refine PE.to (s_mcl ho hc cl me F hr hb ha ?_ ?_ (supW hsup) hpl ?_) (by funext ρ st Q; rw [den, e])
    · cases es with
      | nil => simp [chEs] at hl
      | cons e es => unfold chEs at hl; simp only [Bool.and_eq_true] at hl; exact star_pl hl.1.1
    · cases es with
      | nil => simp [chEs] at hl
      | cons e es => unfold chEs at hl; simp only [Bool.and_eq_true] at hl; rw [pl_star es xs hl.2]; exact backTo_any
    · rw [hs]; exact form_ok hlen
theorem new_any {sc : Scope} {X : Cx} (ok : Okk Γ W κ sc X) {c : Str} {p pos : Pos} {es : Es} {l : List Expr} (hf : (c, ("__init__" : Str)) ∈ κ.mes) (hg : glB sc c = true) (hn : nameOk c = true) (hne : (!l.isEmpty) = true) (hl : chEs κ sc es l = true) (ha : PA X l (LA W (denEs Γ X0 es))) :
    PE X (.Call (.Name c p) l [] pos) (LE W (den Γ X0 (.new c es))) := by
  obtain ⟨sp, e⟩ := ok.mes c _ hf
  obtain ⟨C, k, hc, ⟨a, fd, ps, ds, mk, F, hm, hb, hv⟩, hr⟩ := ok.fx.nw c sp e
  cases hv
  have hs := pl_star es l hl
  cases l with
  | nil => cases hne
  | cons x xs =>
    refine PE.to (s_new hc mk F hr (ok.gl hg) hm hb ha (name_of hn).1 ?_ ?_) (by funext ρ st Q; rw [den, e])
    · cases es with
      | nil => simp [chEs] at hl
      | cons e es => unfold chEs at hl; simp only [Bool.and_eq_true] at hl; exact star_pl hl.1.1
    · cases es with
      | nil => simp [chEs] at hl
      | cons e es => unfold chEs at hl; simp only [Bool.and_eq_true] at hl; rw [pl_star es xs hl.2]; exact backTo_any
/-- built-ins of one value -/
theorem bi_any1 {sc : Scope} {X : Cx} (ok : Okk Γ W κ sc X) {b : Bi} {x : Expr} {ma : M} {f : Str} {p pos : Pos} (ha : PE X x (LE W ma)) (hf : f = biName b) (hg : glB sc f = true) (hp : plB x = true) (hb : b ≠ .len) :
    PE X (.Call (.Name f p) [x] [] pos) (LE W fun ρ st Q => ma ρ st fun x st1 => biR st1 b x fun r => Q r st1) := by
  subst hf
  have hs := star1 (env := X.env) hp
  cases b
  · exact (hb rfl).elim
  · exact (pe_callTy (bi_tuple ok.fx.K) (ok.gl hg) ok.bn (by decide +kernel) (pa_cons ha pa_nil hs) (he := hs)).mono liftB
  · exact (pe_callB (c_max1 ok.fx.K ok.fx.calm ok.fx.room) (ok.gl hg) ok.bn (by decide +kernel) (pa_cons ha pa_nil hs) (he := hs)).mono liftB
  · exact (pe_callB (c_min1 ok.fx.K ok.fx.calm ok.fx.room) (ok.gl hg) ok.bn (by decide +kernel) (pa_cons ha pa_nil hs) (he := hs)).mono liftB
  · exact (pe_callB (bi_all ok.fx.calm) (ok.gl hg) ok.bn (by decide +kernel) (pa_cons ha pa_nil hs) (he := hs)).mono liftB
  · exact (pe_callB (bi_any ok.fx.calm) (ok.gl hg) ok.bn (by decide +kernel) (pa_cons ha pa_nil hs) (he := hs)).mono liftB
  · exact (pe_callTy bi_int (ok.gl hg) ok.bn (by decide +kernel) (pa_cons ha pa_nil hs) (he := hs)).mono liftB
  · exact (pe_callB (bi_sum ok.fx.calm) (ok.gl hg) ok.bn (by decide +kernel) (pa_cons ha pa_nil hs) (he := hs)).mono liftB
end
end G
/-! The checker is right: expressions. -/
namespace G
open PySem PySem.Spec PyProof.Rows L2 C8
section
variable {Γ : Ctx} {W : Wd} {κ : Kx}
mutual
theorem soE : ∀ (ir : E) {sc : Scope} {X : Cx}, Okk Γ W κ sc X → ∀ (e : Expr), chE κ sc ir e = true → PE X e (LE W (den Γ X0 ir))
  | .var i, sc, X, ok, e, h => by
    unfold chE at h; split at h <;> try cases h
    simp only [Bool.and_eq_true] at h
    exact PE.to (s_var (ok.ix h.1.1) (ok.vis h.1.2) (name_of h.2).1 (name_of h.2).2.1) (by
      funext ρ st Q; rw [den] <;> (rcases ρ[i]? with _ | _ | _ <;> rfl))
  | .non, sc, X, ok, e, h => by
    unfold chE at h; split at h <;> try cases h
    exact PE.to (s_const (v := .non) (d := .non) pe_non fun _ _ _ => .non) (by funext ρ st Q; rw [den])
  | .bl b, sc, X, ok, e, h => by
    unfold chE at h; split at h <;> try cases h
    have h := eq_of_beq h
    subst h
    exact PE.to (s_const pe_bl fun _ _ _ => .bl _) (by funext ρ st Q; rw [den])
  | .int i, sc, X, ok, e, h => by
    unfold chE at h; split at h <;> try cases h
    have h := of_decide_eq_true h
    subst h
    exact PE.to (s_const pe_int fun _ _ _ => .int _) (by funext ρ st Q; rw [den])
  | .str x, sc, X, ok, e, h => by
    unfold chE at h; split at h <;> try cases h
    have h := of_decide_eq_true h
    subst h
    exact PE.to (s_const pe_str fun _ _ _ => .str _) (by funext ρ st Q; rw [den])
  | .glo x, sc, X, ok, e, h => by
    unfold chE at h; split at h <;> try cases h
    simp only [Bool.and_eq_true, decide_eq_true_eq] at h
    obtain ⟨⟨rfl, h2⟩, h3⟩ := h
    cases q : Γ.gl x with
    | none => exact ⟨fun pins s σ H Q I ⟨B, ρ, st, P, r, k, _⟩ => by unfold den at k; rw [q] at k; exact k.elim⟩
    | some d =>
      obtain ⟨v, u, e1, e2, e3⟩ := ok.fx.gl x d q
      exact PE.to (s_const (pe_glob (ok.gl h2) e1 e2 (name_of h3).1) e3) (by funext ρ st Q; rw [den, q])
  | .tup es, sc, X, ok, e, h => by
    unfold chE at h; split at h <;> try cases h
    exact PE.to (s_tup (soEs es ok _ h)) (by funext ρ st Q; rw [den])
  | .fr p, sc, X, ok, e, h => by
    unfold chE at h
    exact PE.to (s_fr (soP p ok _ h)) (by funext ρ st Q; rw [den] <;> (refine congrArg _ ?_; funext o st1; cases o <;> rfl))
  | .bx p, sc, X, ok, e, h => by
    unfold chE at h
    exact PE.to (s_bx (soP p ok _ h)) (by funext ρ st Q; rw [den])
  | .bin o a b, sc, X, ok, e, h => by
    unfold chE at h; split at h <;> try cases h
    simp only [Bool.and_eq_true, decide_eq_true_eq] at h
    obtain ⟨⟨⟨rfl, h2⟩, h3⟩, h4⟩ := h
    exact PE.to (s_bin (bin_all ok.fx.K o (opB_of h2)) (soE a ok _ h3) (soE b ok _ h4)) (by funext ρ st Q; rw [den])
  | .neg a, sc, X, ok, e, h => by
    unfold chE at h; split at h <;> try cases h
    exact PE.to (s_neg (soE a ok _ h)) (by funext ρ st Q; rw [den])
  | .cmp o a b, sc, X, ok, e, h => by
    unfold chE at h; split at h <;> try cases h
    simp only [Bool.and_eq_true, decide_eq_true_eq] at h
    obtain ⟨⟨⟨rfl, h2⟩, h3⟩, h4⟩ := h
    exact PE.to (s_cmp (cmp_all ok.fx.K ok.fx.w ok.hu o) (soE a ok _ h3) (soE b ok _ h4) (mark_no h2)) (by funext ρ st Q; rw [den])
  | .cmp2 o o' a b c, sc, X, ok, e, h => by
    unfold chE at h; split at h <;> try cases h
    simp only [Bool.and_eq_true, decide_eq_true_eq] at h
    obtain ⟨⟨⟨⟨⟨rfl, rfl⟩, h2⟩, h3⟩, h4⟩, h5⟩ := h
    exact PE.to (s_cmp2 (cmp_all ok.fx.K ok.fx.w ok.hu o) (cmp_all ok.fx.K ok.fx.w ok.hu o') (soE a ok _ h3) (soE b ok _ h4) (soE c ok _ h5) (mark_no h2)) (by funext ρ st Q; rw [den])
  | .bop isAnd es, sc, X, ok, e, h => by
    unfold chE at h; split at h <;> try cases h
    · simp only [Bool.and_eq_true, Bool.not_eq_true'] at h
      obtain ⟨⟨rfl, h2⟩, h3⟩ := h
      exact PE.to (soAnd es ok _ h3 (by intro e; subst e; cases h2)) (by funext ρ st Q; rw [den])
    · simp only [Bool.and_eq_true, Bool.not_eq_true'] at h
      obtain ⟨⟨rfl, h2⟩, h3⟩ := h
      exact PE.to (soOr es ok _ h3 (by intro e; subst e; cases h2)) (by funext ρ st Q; rw [den])
  | .orv a b, sc, X, ok, e, h => by
    unfold chE at h; split at h <;> try cases h
    simp only [Bool.and_eq_true] at h
    exact PE.to (s_orv ok.fx.K (soE a ok _ h.1) (s_one (soE b ok _ h.2))) (by funext ρ st Q; rw [den])
  | .not a, sc, X, ok, e, h => by
    unfold chE at h; split at h <;> try cases h
    exact PE.to (s_not (soE a ok _ h)) (by funext ρ st Q; rw [den])
  | .ite t a b, sc, X, ok, e, h => by
    unfold chE at h; split at h <;> try cases h
    simp only [Bool.and_eq_true] at h
    exact PE.to (s_ite (soT t ok _ h.1.1) (soE a ok _ h.1.2) (soE b ok _ h.2)) (by funext ρ st Q; rw [den])
  | .idx a i, sc, X, ok, e, h => by
    unfold chE at h; split at h <;> try cases h
    simp only [Bool.and_eq_true] at h
    exact PE.to (s_idx (k := idxR) (ix_all ok.fx.K ok.fx.w ok.hu) (soE a ok _ h.1.2) (soE i ok _ h.2) (ix_pl h.1.1)) (by funext ρ st Q; rw [den])
  | .slc a lo hi, sc, X, ok, e, h => by
    unfold chE at h; split at h <;> try cases h
    simp only [Bool.and_eq_true] at h
    exact PE.to (s_slc ok.fx.K (soE a ok _ h.1.1) (soO lo ok _ h.1.2) (soO hi ok _ h.2)) (by funext ρ st Q; rw [den])
  | .rev a, sc, X, ok, e, h => by
    unfold chE at h; split at h <;> try cases h
    simp only [Bool.and_eq_true, decide_eq_true_eq] at h
    obtain ⟨rfl, h2⟩ := h
    exact PE.to (s_rev ok.fx.K (soE a ok _ h2)) (by funext ρ st Q; rw [den])
  | .bi b a, sc, X, ok, e, h => by
    unfold chE at h; split at h <;> try cases h
    simp only [Bool.and_eq_true, decide_eq_true_eq] at h
    obtain ⟨⟨⟨h1, h2⟩, h3⟩, h4⟩ := h
    by_cases hl : b = .len
    · subst hl; subst h1
      have hs := star1 (env := X.env) h3
      exact PE.to ((pe_callB (bi_lenA ok.fx.K ok.fx.w) (ok.gl h2) ok.bn (by decide +kernel) (pa_cons (soE a ok _ h4) pa_nil hs) (he := hs)).mono liftB) (by funext ρ st Q; rw [den])
    · exact PE.to (bi_any1 ok (soE a ok _ h4) h1 h2 h3 hl) (by funext ρ st Q; rw [den])
  | .mx m a b, sc, X, ok, e, h => by
    unfold chE at h; split at h <;> try cases h
    simp only [Bool.and_eq_true, decide_eq_true_eq] at h
    obtain ⟨⟨⟨⟨⟨rfl, h2⟩, h3⟩, h4⟩, h5⟩, h6⟩ := h
    have hs := star2 (env := X.env) h3 h4
    have hs' := star1 (env := X.env) h4
    cases m
    · exact PE.to ((pe_callB (bi_min2 ok.fx.calm) (ok.gl h2) ok.bn (by decide +kernel) (pa_cons (soE a ok _ h5) (pa_cons (soE b ok _ h6) pa_nil hs') (by rw [hs, hs'])) (he := by rw [hs, hs']) (hpl := by rw [hs']; rfl)).mono liftB2) (by funext ρ st Q; rw [den])
    · exact PE.to ((pe_callB (bi_max2 ok.fx.calm) (ok.gl h2) ok.bn (by decide +kernel) (pa_cons (soE a ok _ h5) (pa_cons (soE b ok _ h6) pa_nil hs') (by rw [hs, hs'])) (he := by rw [hs, hs']) (hpl := by rw [hs']; rfl)).mono liftB2) (by funext ρ st Q; rw [den])
  | .isi a ts, sc, X, ok, e, h => by
    unfold chE at h; split at h <;> try cases h
    · simp only [Bool.and_eq_true, decide_eq_true_eq] at h
      obtain ⟨⟨⟨⟨h1, h2⟩, h3⟩, h4⟩, h5⟩ := h
      exact PE.to (isi_1 ok (soE a ok _ h4) h1 h2 h3 h5) (by funext ρ st Q; rw [den] <;> (refine congrArg _ ?_; funext x st1; cases isTys ts (rsv st1 x) <;> rfl))
    · simp only [Bool.and_eq_true, decide_eq_true_eq] at h
      obtain ⟨⟨⟨⟨h1, h2⟩, h3⟩, h4⟩, h5⟩ := h
      exact PE.to (isi_2 ok (soE a ok _ h4) h1 h2 h3 h5) (by funext ρ st Q; rw [den] <;> (refine congrArg _ ?_; funext x st1; cases isTys ts (rsv st1 x) <;> rfl))
  | .app o a, sc, X, ok, e, h => by
    unfold chE at h; split at h <;> try cases h
    simp only [Bool.and_eq_true, decide_eq_true_eq] at h
    obtain ⟨⟨⟨⟨⟨rfl, h2⟩, h3⟩, h4⟩, h5⟩, h6⟩ := h
    exact PE.to (s_app (soE o ok _ h5) (soE a ok _ h6) (supW h2) h3 (star1 h4)) (by funext ρ st Q; rw [den])
  | .pop o, sc, X, ok, e, h => by
    unfold chE at h; split at h <;> try cases h
    simp only [Bool.and_eq_true, decide_eq_true_eq] at h
    obtain ⟨⟨⟨rfl, h2⟩, h3⟩, h4⟩ := h
    exact PE.to (s_pop (soE o ok _ h4) (supW h2) h3) (by funext ρ st Q; rw [den])
  | .popAt o a, sc, X, ok, e, h => by
    unfold chE at h; split at h <;> try cases h
    simp only [Bool.and_eq_true, decide_eq_true_eq] at h
    obtain ⟨⟨⟨⟨⟨rfl, h2⟩, h3⟩, h4⟩, h5⟩, h6⟩ := h
    exact PE.to (s_popAt (soE o ok _ h5) (soE a ok _ h6) (supW h2) h3 (star1 h4)) (by funext ρ st Q; rw [den])
  | .ins o i a, sc, X, ok, e, h => by
    unfold chE at h; split at h <;> try cases h
    simp only [Bool.and_eq_true, decide_eq_true_eq] at h
    obtain ⟨⟨⟨⟨⟨⟨⟨rfl, h2⟩, h3⟩, h4⟩, h4'⟩, h5⟩, h6⟩, h7⟩ := h
    exact PE.to (s_ins (soE o ok _ h5) (soE i ok _ h6) (soE a ok _ h7) (supW h2) h3 (star2 h4 h4') (star1 h4')) (by funext ρ st Q; rw [den])
  | .upper o, sc, X, ok, e, h => by
    unfold chE at h; split at h <;> try cases h
    simp only [Bool.and_eq_true, decide_eq_true_eq] at h
    obtain ⟨⟨⟨rfl, h2⟩, h3⟩, h4⟩ := h
    exact PE.to (s_upper (soE o ok _ h4) (supW h2) h3) (by funext ρ st Q; rw [den])
  | .join o a, sc, X, ok, e, h => by
    unfold chE at h; split at h <;> try cases h
    simp only [Bool.and_eq_true, decide_eq_true_eq] at h
    obtain ⟨⟨⟨⟨⟨rfl, h2⟩, h3⟩, h4⟩, h5⟩, h6⟩ := h
    exact PE.to (s_join (soE o ok _ h5) (soE a ok _ h6) (supW h2) h3 (star1 h4)) (by funext ρ st Q; rw [den])
  | .get _ _, sc, X, ok, e, h => by unfold chE at h; cases h
  | .getd o i a, sc, X, ok, e, h => by
    unfold chE at h; split at h <;> try cases h
    simp only [Bool.and_eq_true, decide_eq_true_eq] at h
    obtain ⟨⟨⟨⟨⟨⟨⟨rfl, h2⟩, h3⟩, h4⟩, h4'⟩, h5⟩, h6⟩, h7⟩ := h
    exact PE.to (s_getd ok.fx.K ok.fx.w ok.hu (soE o ok _ h5) (soE i ok _ h6) (soE a ok _ h7) (supW h2) h3 (star2 h4 h4')) (by funext ρ st Q; rw [den])
  | .setd o i a, sc, X, ok, e, h => by
    unfold chE at h; split at h <;> try cases h
    simp only [Bool.and_eq_true, decide_eq_true_eq] at h
    obtain ⟨⟨⟨⟨⟨⟨⟨rfl, h2⟩, h3⟩, h4⟩, h4'⟩, h5⟩, h6⟩, h7⟩ := h
    refine PE.to (s_setd ok.fx.K ok.fx.w ok.hu (soE o ok _ h5) (soE i ok _ h6) (soE a ok _ h7) (supW h2) h3 (star2 h4 h4')) (by funext ρ st Q; rw [den])
  | .upd o a, sc, X, ok, e, h => by
    unfold chE at h; split at h <;> try cases h
    simp only [Bool.and_eq_true, decide_eq_true_eq] at h
    obtain ⟨⟨⟨⟨⟨rfl, h2⟩, h3⟩, h4⟩, h5⟩, h6⟩ := h
    exact PE.to (s_upd ok.fx.K ok.fx.w ok.hu (soE o ok _ h5) (soE a ok _ h6) (supW h2) h3 (star1 h4)) (by funext ρ st Q; rw [den])
  | .mxd _ _ _, sc, X, ok, e, h => by unfold chE at h; cases h
  | .callk _ _ _, sc, X, ok, e, h => by unfold chE at h; cases h
  | .callL _ _ _ _, sc, X, ok, e, h => by unfold chE at h; cases h
  | .maxk _ _ _, sc, X, ok, e, h => by unfold chE at h; cases h
  | .att o f, sc, X, ok, e, h => by
    unfold chE at h; split at h <;> try cases h
    simp only [Bool.and_eq_true, decide_eq_true_eq] at h
    obtain ⟨⟨rfl, h2⟩, h3⟩ := h
    exact PE.to (s_att (cf := Γ.cf) (fun c C a b => ok.fx.cf c f C a b) (soE o ok _ h3) (supW h2)) (by funext ρ st Q; rw [den])
  | .call f es, sc, X, ok, e, h => by
    unfold chE at h; split at h <;> try cases h
    simp only [Bool.and_eq_true, decide_eq_true_eq] at h
    obtain ⟨⟨⟨⟨rfl, h1⟩, h2⟩, h3⟩, h4⟩ := h
    exact call_any ok h1 h2 h3 h4 (soEs es ok _ h4)
  | .mcl c m o es, sc, X, ok, e, h => by
    unfold chE at h; split at h <;> try cases h
    simp only [Bool.and_eq_true, decide_eq_true_eq] at h
    obtain ⟨⟨⟨⟨⟨⟨⟨rfl, h1⟩, h2⟩, h3⟩, h4⟩, h5⟩, h6⟩, h7⟩ := h
    exact mcl_any ok h2 h1 h3 h4 h5 (soE o ok _ h6) h7 (soEs es ok _ h7)
  | .new c es, sc, X, ok, e, h => by
    unfold chE at h; split at h <;> try cases h
    simp only [Bool.and_eq_true, decide_eq_true_eq] at h
    obtain ⟨⟨⟨⟨⟨rfl, h1⟩, h2⟩, h3⟩, h4⟩, h5⟩ := h
    exact new_any ok h1 h2 h3 h4 h5 (soEs es ok _ h5)
  | .clv _ _, sc, X, ok, e, h => by unfold chE at h; cases h
  | .frz a, sc, X, ok, e, h => by
    unfold chE at h
    exact PE.to (s_frz (soE a ok _ h)) (by funext ρ st Q; rw [den])
theorem soAnd : ∀ (es : Es) {sc : Scope} {X : Cx}, Okk Γ W κ sc X → ∀ (l : List Expr) {pos : Pos}, chEs κ sc es l = true → l ≠ [] → PE X (.BoolOp .And l pos) (LE W (denB Γ X0 true es))
  | .nil, sc, X, ok, l, pos, h, hn => by
    unfold chEs at h; split at h <;> try cases h
    exact (hn rfl).elim
  | .cons e .nil, sc, X, ok, l, pos, h, hn => by
    unfold chEs at h; split at h <;> try cases h
    simp only [Bool.and_eq_true] at h
    obtain ⟨⟨h1, h2⟩, h3⟩ := h
    unfold chEs at h3; split at h3 <;> try cases h3
    exact PE.to (s_one (soE e ok _ h2)) (by funext ρ st Q; rw [denB])
  | .cons e (.cons e2 es), sc, X, ok, l, pos, h, hn => by
    unfold chEs at h; split at h <;> try cases h
    simp only [Bool.and_eq_true] at h
    obtain ⟨⟨h1, h2⟩, h3⟩ := h
    rename_i x xs
    cases xs with
    | nil => simp [chEs] at h3
    | cons y ys => exact PE.to (s_and ok.fx.K (soE e ok _ h2) (soAnd (.cons e2 es) ok (y :: ys) h3 (by simp))) (by funext ρ st Q; rw [denB])
theorem soOr : ∀ (es : Es) {sc : Scope} {X : Cx}, Okk Γ W κ sc X → ∀ (l : List Expr) {pos : Pos}, chEs κ sc es l = true → l ≠ [] → PE X (.BoolOp .Or l pos) (LE W (denB Γ X0 false es))
  | .nil, sc, X, ok, l, pos, h, hn => by
    unfold chEs at h; split at h <;> try cases h
    exact (hn rfl).elim
  | .cons e .nil, sc, X, ok, l, pos, h, hn => by
    unfold chEs at h; split at h <;> try cases h
    simp only [Bool.and_eq_true] at h
    obtain ⟨⟨h1, h2⟩, h3⟩ := h
    unfold chEs at h3; split at h3 <;> try cases h3
    exact PE.to (s_one (soE e ok _ h2)) (by funext ρ st Q; rw [denB])
  | .cons e (.cons e2 es), sc, X, ok, l, pos, h, hn => by
    unfold chEs at h; split at h <;> try cases h
    simp only [Bool.and_eq_true] at h
    obtain ⟨⟨h1, h2⟩, h3⟩ := h
    rename_i x xs
    cases xs with
    | nil => simp [chEs] at h3
    | cons y ys => exact PE.to (s_or ok.fx.K (soE e ok _ h2) (soOr (.cons e2 es) ok (y :: ys) h3 (by simp))) (by funext ρ st Q; rw [denB])
theorem soT : ∀ (ir : E) {sc : Scope} {X : Cx}, Okk Γ W κ sc X → ∀ (e : Expr), chT κ sc ir e = true → PT X e (LT W (den Γ X0 ir))
  | .not a, sc, X, ok, e, h => by
    unfold chT at h; split at h <;> try cases h
    exact PT.to (t_not (soT a ok _ h)) (by funext ρ st Q; rw [den])
  | .bop isAnd es, sc, X, ok, e, h => by
    unfold chT at h; split at h <;> try cases h
    · simp only [Bool.and_eq_true, Bool.not_eq_true'] at h
      obtain ⟨⟨rfl, h2⟩, h3⟩ := h
      exact PT.to (soAndT es ok _ h3 (by intro e; subst e; cases h2)).pt (by funext ρ st Q; rw [den])
    · simp only [Bool.and_eq_true, Bool.not_eq_true'] at h
      obtain ⟨⟨rfl, h2⟩, h3⟩ := h
      exact PT.to (soOrT es ok _ h3 (by intro e; subst e; cases h2)).pt (by funext ρ st Q; rw [den])
  | .cmp o a b, sc, X, ok, e, h => by
    unfold chT at h; split at h <;> try cases h
    simp only [Bool.and_eq_true, decide_eq_true_eq] at h
    obtain ⟨⟨⟨rfl, h2⟩, h3⟩, h4⟩ := h
    exact PT.to (s_cmpT (cmp_all ok.fx.K ok.fx.w ok.hu o) (soE a ok _ h3) (soE b ok _ h4) (mark_no h2)) (by funext ρ st Q; rw [den])
  | .cmp2 o o' a b c, sc, X, ok, e, h => by
    unfold chT at h; split at h <;> try cases h
    simp only [Bool.and_eq_true, decide_eq_true_eq] at h
    obtain ⟨⟨⟨⟨⟨rfl, rfl⟩, h2⟩, h3⟩, h4⟩, h5⟩ := h
    exact PT.to (s_cmp2T (cmp_all ok.fx.K ok.fx.w ok.hu o) (cmp_all ok.fx.K ok.fx.w ok.hu o') (soE a ok _ h3) (soE b ok _ h4) (soE c ok _ h5) (mark_no h2)) (by funext ρ st Q; rw [den])
  | .var i, sc, X, ok, e, h => by
    unfold chT at h; split at h <;> try cases h
    exact s_val (soE (.var i) ok _ (by unfold chE; exact h)) fun _ => rfl
  | .call f es, sc, X, ok, e, h => by
    unfold chT at h; split at h <;> try cases h
    simp only [Bool.and_eq_true, decide_eq_true_eq] at h
    obtain ⟨⟨⟨⟨rfl, h1⟩, h2⟩, h3⟩, h4⟩ := h
    exact s_val (call_any ok h1 h2 h3 h4 (soEs es ok _ h4)) fun _ => rfl
  | .mcl c m o es, sc, X, ok, e, h => by
    unfold chT at h; split at h <;> try cases h
    simp only [Bool.and_eq_true, decide_eq_true_eq] at h
    obtain ⟨⟨⟨⟨⟨⟨⟨rfl, h1⟩, h2⟩, h3⟩, h4⟩, h5⟩, h6⟩, h7⟩ := h
    exact s_val (mcl_any ok h2 h1 h3 h4 h5 (soE o ok _ h6) h7 (soEs es ok _ h7)) fun _ => rfl
  | .isi a ts, sc, X, ok, e, h => by
    unfold chT at h; split at h <;> try cases h
    · simp only [Bool.and_eq_true, decide_eq_true_eq] at h
      obtain ⟨⟨⟨⟨h1, h2⟩, h3⟩, h4⟩, h5⟩ := h
      exact s_val (PE.to (isi_1 ok (soE a ok _ h4) h1 h2 h3 h5) (by funext ρ st Q; rw [den] <;> (refine congrArg _ ?_; funext x st1; cases isTys ts (rsv st1 x) <;> rfl))) fun _ => rfl
    · simp only [Bool.and_eq_true, decide_eq_true_eq] at h
      obtain ⟨⟨⟨⟨h1, h2⟩, h3⟩, h4⟩, h5⟩ := h
      exact s_val (PE.to (isi_2 ok (soE a ok _ h4) h1 h2 h3 h5) (by funext ρ st Q; rw [den] <;> (refine congrArg _ ?_; funext x st1; cases isTys ts (rsv st1 x) <;> rfl))) fun _ => rfl
  | .bi b a, sc, X, ok, e, h => by
    unfold chT at h; split at h <;> try cases h
    simp only [Bool.and_eq_true, decide_eq_true_eq] at h
    obtain ⟨⟨⟨h1, h2⟩, h3⟩, h4⟩ := h
    refine s_val ?_ fun _ => rfl
    by_cases hl : b = .len
    · subst hl; subst h1
      have hs := star1 (env := X.env) h3
      exact PE.to ((pe_callB (bi_lenA ok.fx.K ok.fx.w) (ok.gl h2) ok.bn (by decide +kernel) (pa_cons (soE a ok _ h4) pa_nil hs) (he := hs)).mono liftB) (by funext ρ st Q; rw [den])
    · exact PE.to (bi_any1 ok (soE a ok _ h4) h1 h2 h3 hl) (by funext ρ st Q; rw [den])
  | .bl b, sc, X, ok, e, h => by
    unfold chT at h; split at h <;> try cases h
    exact s_val (soE (.bl b) ok _ (by unfold chE; exact h)) fun _ => rfl
  | .non, _, _, _, _, h => by unfold chT at h; cases h
  | .int _, _, _, _, _, h => by unfold chT at h; cases h
  | .str _, _, _, _, _, h => by unfold chT at h; cases h
  | .glo _, _, _, _, _, h => by unfold chT at h; cases h
  | .tup _, _, _, _, _, h => by unfold chT at h; cases h
  | .fr _, _, _, _, _, h => by unfold chT at h; cases h
  | .bx _, _, _, _, _, h => by unfold chT at h; cases h
  | .bin _ _ _, _, _, _, _, h => by unfold chT at h; cases h
  | .neg _, _, _, _, _, h => by unfold chT at h; cases h
  | .orv _ _, _, _, _, _, h => by unfold chT at h; cases h
  | .ite _ _ _, _, _, _, _, h => by unfold chT at h; cases h
  | .idx _ _, _, _, _, _, h => by unfold chT at h; cases h
  | .slc _ _ _, _, _, _, _, h => by unfold chT at h; cases h
  | .rev _, _, _, _, _, h => by unfold chT at h; cases h
  | .mx _ _ _, _, _, _, _, h => by unfold chT at h; cases h
  | .app _ _, _, _, _, _, h => by unfold chT at h; cases h
  | .pop _, _, _, _, _, h => by unfold chT at h; cases h
  | .popAt _ _, _, _, _, _, h => by unfold chT at h; cases h
  | .ins _ _ _, _, _, _, _, h => by unfold chT at h; cases h
  | .upper _, _, _, _, _, h => by unfold chT at h; cases h
  | .join _ _, _, _, _, _, h => by unfold chT at h; cases h
  | .get _ _, _, _, _, _, h => by unfold chT at h; cases h
  | .getd _ _ _, _, _, _, _, h => by unfold chT at h; cases h
  | .setd _ _ _, _, _, _, _, h => by unfold chT at h; cases h
  | .upd _ _, _, _, _, _, h => by unfold chT at h; cases h
  | .att _ _, _, _, _, _, h => by unfold chT at h; cases h
  | .new _ _, _, _, _, _, h => by unfold chT at h; cases h
  | .mxd _ _ _, _, _, _, _, h => by unfold chT at h; cases h
  | .callk _ _ _, _, _, _, _, h => by unfold chT at h; cases h
  | .callL _ _ _ _, _, _, _, _, h => by unfold chT at h; cases h
  | .maxk _ _ _, _, _, _, _, h => by unfold chT at h; cases h
  | .clv _ _, _, _, _, _, h => by unfold chT at h; cases h
  | .frz _, _, _, _, _, h => by unfold chT at h; cases h
theorem soAndT : ∀ (es : Es) {sc : Scope} {X : Cx}, Okk Γ W κ sc X → ∀ (l : List Expr) {pos : Pos}, chTs κ sc es l = true → l ≠ [] → PW X (.BoolOp .And l pos) (LT W (denB Γ X0 true es))
  | .nil, sc, X, ok, l, pos, h, hn => by
    unfold chTs at h; split at h <;> try cases h
    exact (hn rfl).elim
  | .cons e .nil, sc, X, ok, l, pos, h, hn => by
    unfold chTs at h; split at h <;> try cases h
    simp only [Bool.and_eq_true] at h
    obtain ⟨h2, h3⟩ := h
    unfold chTs at h3; split at h3 <;> try cases h3
    have := w_one (op := .And) (pos := pos) (soT e ok _ h2)
    have e : den Γ X0 e = denB Γ X0 true (.cons e .nil) := by funext ρ st Q; rw [denB]
    rw [← e]; exact this
  | .cons e (.cons e2 es), sc, X, ok, l, pos, h, hn => by
    unfold chTs at h; split at h <;> try cases h
    simp only [Bool.and_eq_true] at h
    obtain ⟨h2, h3⟩ := h
    rename_i x xs
    cases xs with
    | nil => simp [chTs] at h3
    | cons y ys =>
      have := w_and (pos := pos) (soT e ok _ h2) (soAndT (.cons e2 es) ok (y :: ys) (pos := pos) h3 (by simp))
      have e' : denB Γ X0 true (.cons e (.cons e2 es)) = fun ρ st Q => den Γ X0 e ρ st fun d st1 => ∃ t, d = .bl t ∧ (if t = true then denB Γ X0 true (.cons e2 es) ρ st1 Q else Q d st1) := by funext ρ st Q; rw [denB]
      rw [e']; exact this
theorem soOrT : ∀ (es : Es) {sc : Scope} {X : Cx}, Okk Γ W κ sc X → ∀ (l : List Expr) {pos : Pos}, chTs κ sc es l = true → l ≠ [] → PW X (.BoolOp .Or l pos) (LT W (denB Γ X0 false es))
  | .nil, sc, X, ok, l, pos, h, hn => by
    unfold chTs at h; split at h <;> try cases h
    exact (hn rfl).elim
  | .cons e .nil, sc, X, ok, l, pos, h, hn => by
    unfold chTs at h; split at h <;> try cases h
    simp only [Bool.and_eq_true] at h
    obtain ⟨h2, h3⟩ := h
    unfold chTs at h3; split at h3 <;> try cases h3
    have := w_one (op := .Or) (pos := pos) (soT e ok _ h2)
    have e : den Γ X0 e = denB Γ X0 false (.cons e .nil) := by funext ρ st Q; rw [denB]
    rw [← e]; exact this
  | .cons e (.cons e2 es), sc, X, ok, l, pos, h, hn => by
    unfold chTs at h; split at h <;> try cases h
    simp only [Bool.and_eq_true] at h
    obtain ⟨h2, h3⟩ := h
    rename_i x xs
    cases xs with
    | nil => simp [chTs] at h3
    | cons y ys =>
      have := w_or (pos := pos) (soT e ok _ h2) (soOrT (.cons e2 es) ok (y :: ys) (pos := pos) h3 (by simp))
      have e' : denB Γ X0 false (.cons e (.cons e2 es)) = fun ρ st Q => den Γ X0 e ρ st fun d st1 => ∃ t, d = .bl t ∧ (if t = false then denB Γ X0 false (.cons e2 es) ρ st1 Q else Q d st1) := by funext ρ st Q; rw [denB]
      rw [e']; exact this
theorem soP : ∀ (ir : P) {sc : Scope} {X : Cx}, Okk Γ W κ sc X → ∀ (e : Expr), chP κ sc ir e = true → PE X e (LP W (denP Γ X0 ir))
  | .disp es, sc, X, ok, e, h => by
    unfold chP at h; split at h <;> try cases h
    exact PE.toP (p_disp (soEs es ok _ h)) (by funext ρ st Q; rw [denP])
  | .cat a b, sc, X, ok, e, h => by
    unfold chP at h; split at h <;> try cases h
    simp only [Bool.and_eq_true] at h
    exact PE.toP (p_cat (soE a ok _ h.1) (soE b ok _ h.2)) (by funext ρ st Q; rw [denP])
  | .rep a b, sc, X, ok, e, h => by
    unfold chP at h; split at h <;> try cases h
    simp only [Bool.and_eq_true] at h
    exact PE.toP (p_rep (soE a ok _ h.1) (soE b ok _ h.2)) (by funext ρ st Q; rw [denP])
  | .slc a lo hi, sc, X, ok, e, h => by
    unfold chP at h; split at h <;> try cases h
    simp only [Bool.and_eq_true] at h
    exact PE.toP (p_slc ok.fx.K (soE a ok _ h.1.1) (soO lo ok _ h.1.2) (soO hi ok _ h.2)) (by funext ρ st Q; rw [denP])
  | .rev a, sc, X, ok, e, h => by
    unfold chP at h; split at h <;> try cases h
    simp only [Bool.and_eq_true, decide_eq_true_eq] at h
    obtain ⟨rfl, h2⟩ := h
    exact PE.toP (p_rev (soE a ok _ h2)) (by funext ρ st Q; rw [denP])
  | .list a, sc, X, ok, e, h => by
    unfold chP at h; split at h <;> try cases h
    simp only [Bool.and_eq_true, decide_eq_true_eq] at h
    obtain ⟨⟨⟨rfl, h2⟩, h3⟩, h4⟩ := h
    have hs := star1 (env := X.env) h3
    exact PE.toP ((pe_callTy (bi_list1 ok.fx.K) (ok.gl h2) ok.bn (by decide +kernel) (pa_cons (soE a ok _ h4) pa_nil hs) (he := hs)).mono liftN) (by funext ρ st Q; rw [denP])
  | .sorted a, sc, X, ok, e, h => by
    unfold chP at h; split at h <;> try cases h
    simp only [Bool.and_eq_true, decide_eq_true_eq] at h
    obtain ⟨⟨⟨rfl, h2⟩, h3⟩, h4⟩ := h
    have hs := star1 (env := X.env) h3
    exact PE.toP ((pe_callB (bi_sorted ok.fx.K ok.fx.w ok.fx.calm ok.fx.room) (ok.gl h2) ok.bn (by decide +kernel) (pa_cons (soE a ok _ h4) pa_nil hs) (he := hs)).mono liftN) (by funext ρ st Q; rw [denP])
  | .sortedI a, sc, X, ok, e, h => by
    unfold chP at h; split at h <;> try cases h
    simp only [Bool.and_eq_true, decide_eq_true_eq] at h
    obtain ⟨⟨⟨⟨⟨rfl, h2⟩, rfl⟩, h3⟩, h4⟩, h5⟩ := h
    exact PE.toP (p_sortedI ok.fx.K ok.fx.w ok.fx.calm ok.fx.room (ok.gl h2) ok.bn (soE a ok _ h5) (supW h3) h4) (by funext ρ st Q; rw [denP])
  | .sortedS _, sc, X, ok, e, h => by unfold chP at h; cases h
  | .listK a, sc, X, ok, e, h => by
    unfold chP at h; split at h <;> try cases h
    simp only [Bool.and_eq_true, decide_eq_true_eq] at h
    obtain ⟨⟨⟨rfl, h2⟩, h3⟩, h4⟩ := h
    have hs := star1 (env := X.env) h3
    exact PE.toP ((pe_callTy (bi_listK ok.fx.K ok.fx.w ok.fx.calm) (ok.gl h2) ok.bn (by decide +kernel) (pa_cons (soE a ok _ h4) pa_nil hs) (he := hs)).mono liftN) (by funext ρ st Q; rw [denP])
  | .dct0, sc, X, ok, e, h => by
    unfold chP at h; split at h <;> try cases h
    exact PE.toP p_dct0 (by funext ρ st Q; rw [denP])
  | .dct1 k v, sc, X, ok, e, h => by
    unfold chP at h; split at h <;> try cases h
    simp only [Bool.and_eq_true] at h
    exact PE.toP (p_dct1 ok.fx.K ok.fx.w ok.hu (soE k ok _ h.1) (soE v ok _ h.2)) (by funext ρ st Q; rw [denP])
  | .dcto _, sc, X, ok, e, h => by unfold chP at h; cases h
  | .dctc own p it kx vx, sc, X, ok, e, h => by
    unfold chP at h; split at h <;> try cases h
    rename_i k v tg iter scope pos
    simp only [Bool.and_eq_true, decide_eq_true_eq] at h
    obtain ⟨⟨⟨⟨⟨⟨h1, h2⟩, h3⟩, h4⟩, h5⟩, h6⟩, h7⟩ := h
    refine PE.toP (p_dctc (own := ownN κ.N own) (p := p) ok.fx.K ok.fx.w ok.hu ok.fx.calm ok.ndX (soI it ok tg iter h5) (by rw [ok.hN, ok.hsc]; exact blkOk_by h1) (fun s H C cl fp => soPtB ok s H scope C cl fp p tg h2) (by rw [ownN_snd]; exact h3)
      (fun s H C cl fp => soE kx (ok.blk s H scope C cl fp) k h6) (fun s H C cl fp => soE vx (ok.blk s H scope C cl fp) v h7) (fold_no h4)) ?_
    funext ρ st Q
    rw [denP, ownN_snd]
    rfl
  | .comp2 own p it c own1 p1 it1 c1 elt, sc, X, ok, e, h => by
    unfold chP at h; split at h <;> try cases h
    rename_i el tg iter ifs tg1 iter1 ifs1 scope pos
    simp only [Bool.and_eq_true, decide_eq_true_eq] at h
    obtain ⟨⟨⟨⟨⟨⟨⟨⟨⟨⟨⟨⟨h1, h2⟩, h3⟩, h4⟩, h5⟩, h6⟩, h7⟩, h8⟩, h9⟩, h10⟩, h11⟩, h12⟩, h13⟩ := h
    have t0 : ∀ s H C cl fp, PTs (X.blk s H scope (compEnvC scope cl C X.env) fp) ifs (LT W (den Γ X0 c)) := by
      intro s H C cl fp
      split at h6
      · split at h6
        · subst h6
          exact PTs.to ts_nil (by funext ρ st Q; rw [den])
        · cases h6
      · exact ts_one (soT c (ok.blk s H scope C cl fp) _ h6)
      · cases h6
    have t1 : ∀ s H C cl fp, PTs (X.blk s H scope (compEnvC scope cl C X.env) fp) ifs1 (LT W (den Γ X0 c1)) := by
      intro s H C cl fp
      split at h12
      · split at h12
        · subst h12
          exact PTs.to ts_nil (by funext ρ st Q; rw [den])
        · cases h12
      · exact ts_one (soT c1 (ok.blk s H scope C cl fp) _ h12)
      · cases h12
    refine PE.toP (p_comp2 (own := ownN κ.N own) (own1 := own1) (p := p) (p1 := p1) (mt := den Γ X0 c) (mt1 := den Γ X0 c1) ok.fx.calm ok.ndX (soI it ok tg iter h5) (by rw [ok.hN, ok.hsc]; exact blkOk_by h1) (by rw [ownN_snd]; exact h7) (fun s H C cl fp => soPtB ok s H scope C cl fp p tg h2) (by rw [ownN_snd]; exact h3)
      t0 (fun s H C cl fp => soI it1 (ok.blk s H scope C cl fp) tg1 iter1 h11) (fun s H C cl fp => soPtB ok s H scope C cl fp p1 tg1 h8) h9 t1 (fun s H C cl fp => soE elt (ok.blk s H scope C cl fp) el h13) (fold_no h4) (fun env => fold_no h10)) ?_
    funext ρ st Q
    rw [denP, ownN_snd]
    rfl
  | .comp own p it elt, sc, X, ok, e, h => by
    unfold chP at h; split at h <;> try cases h
    rename_i el tg iter scope pos
    simp only [Bool.and_eq_true, decide_eq_true_eq] at h
    obtain ⟨⟨⟨⟨⟨h1, h2⟩, h3⟩, h4⟩, h5⟩, h6⟩ := h
    refine PE.toP (p_comp (own := ownN κ.N own) (p := p) ok.fx.calm ok.ndX (soI it ok tg iter h5) (by rw [ok.hN, ok.hsc]; exact blkOk_by h1) (fun s H C cl fp => soPtB ok s H scope C cl fp p tg h2) (by rw [ownN_snd]; exact h3)
      (fun s H C cl fp => ts_nil) (fun s H C cl fp => soE elt (ok.blk s H scope C cl fp) el h6) (fold_no h4)) ?_
    funext ρ st Q
    rw [denP, ownN_snd]
    congr 1
    funext ds C st1
    congr 1
    funext d st k
    unfold turn
    congr 1
    funext ρ1
    simp
  | .compif own p it c elt, sc, X, ok, e, h => by
    unfold chP at h; split at h <;> try cases h
    rename_i el tg iter t scope pos
    simp only [Bool.and_eq_true, decide_eq_true_eq] at h
    obtain ⟨⟨⟨⟨⟨⟨h1, h2⟩, h3⟩, h4⟩, h5⟩, h7⟩, h6⟩ := h
    refine PE.toP (p_comp (own := ownN κ.N own) (p := p) ok.fx.calm ok.ndX (soI it ok tg iter h5) (by rw [ok.hN, ok.hsc]; exact blkOk_by h1) (fun s H C cl fp => soPtB ok s H scope C cl fp p tg h2) (by rw [ownN_snd]; exact h3)
      (fun s H C cl fp => ts_one (soT c (ok.blk s H scope C cl fp) t h7)) (fun s H C cl fp => soE elt (ok.blk s H scope C cl fp) el h6) (fold_no h4)) ?_
    funext ρ st Q
    rw [denP, ownN_snd]
    rfl
theorem soO : ∀ (ir : Bd) {sc : Scope} {X : Cx}, Okk Γ W κ sc X → ∀ (e : Option Expr), chO κ sc ir e = true → PO X e (LO W (denO Γ X0 ir))
  | .no, sc, X, ok, none, h => PO.to o_none (by funext ρ st Q; rw [denO])
  | .no, sc, X, ok, some _, h => by simp [chO] at h
  | .at a, sc, X, ok, none, h => by simp [chO] at h
  | .at a, sc, X, ok, some x, h => by
    unfold chO at h
    exact PO.to (o_some (soE a ok _ h)) (by funext ρ st Q; rw [denO])
theorem soEs : ∀ (ir : Es) {sc : Scope} {X : Cx}, Okk Γ W κ sc X → ∀ (e : List Expr), chEs κ sc ir e = true → PA X e (LA W (denEs Γ X0 ir))
  | .nil, sc, X, ok, l, h => by
    unfold chEs at h; split at h <;> try cases h
    exact PA.to s_nil (by funext ρ st Q; rw [denEs])
  | .cons a as, sc, X, ok, l, h => by
    unfold chEs at h; split at h <;> try cases h
    simp only [Bool.and_eq_true] at h
    exact PA.to (s_cons (soE a ok _ h.1.2) (soEs as ok _ h.2) (star_pl h.1.1)) (by funext ρ st Q; rw [denEs])
theorem soI : ∀ (ir : It) {sc : Scope} {X : Cx}, Okk Γ W κ sc X → ∀ (tg e : Expr), chI κ sc ir tg e = true → PI X tg e (LI W (denI Γ X0 ir))
  | .of a, sc, X, ok, tg, e, h => by
    unfold chI at h
    exact PI.to (i_of ok.fx.K (soE a ok _ h)) (by funext ρ st Q; rw [denI] <;> (refine congrArg _ ?_; funext d st1; cases items1 d <;> rfl))
  | .range1 a, sc, X, ok, tg, e, h => by
    unfold chI at h; split at h <;> try cases h
    simp only [Bool.and_eq_true, decide_eq_true_eq] at h
    obtain ⟨⟨⟨rfl, h2⟩, h3⟩, h4⟩ := h
    exact PI.to (i_range1 (ok.gl h2) ok.bn (soE a ok _ h4) (star1 h3)) (by funext ρ st Q; rw [denI])
  | .range2 a b, sc, X, ok, tg, e, h => by
    unfold chI at h; split at h <;> try cases h
    simp only [Bool.and_eq_true, decide_eq_true_eq] at h
    obtain ⟨⟨⟨⟨⟨rfl, h2⟩, h3⟩, h4⟩, h5⟩, h6⟩ := h
    exact PI.to (i_range2 (ok.gl h2) ok.bn (soE a ok _ h5) (soE b ok _ h6) (star2 h3 h4) (star1 h4)) (by funext ρ st Q; rw [denI])
  | .zip a b, sc, X, ok, tg, e, h => by
    unfold chI at h; split at h <;> try cases h
    simp only [Bool.and_eq_true, decide_eq_true_eq] at h
    obtain ⟨⟨⟨⟨⟨rfl, h2⟩, h3⟩, h4⟩, h5⟩, h6⟩ := h
    exact PI.to (i_zip ok.fx.K (ok.gl h2) ok.bn (soE a ok _ h5) (soE b ok _ h6) (by rw [star2 h3 h4, star1 h4]) (star1 h4)) (by funext ρ st Q; rw [denI])
  | .enum a, sc, X, ok, tg, e, h => by unfold chI at h; cases h
  | .items a, sc, X, ok, tg, e, h => by
    unfold chI at h; split at h <;> try cases h
    simp only [Bool.and_eq_true, decide_eq_true_eq] at h
    obtain ⟨⟨⟨rfl, h2⟩, h3⟩, h4⟩ := h
    exact PI.to (i_items ok.fx.K ok.fx.w (soE a ok _ h4) (supW h2) h3) (by funext ρ st Q; rw [denI])
  | .keys a, sc, X, ok, tg, e, h => by
    unfold chI at h
    exact PI.to (i_keys (soE a ok _ h)) (by funext ρ st Q; rw [denI])
  | .ofL a, sc, X, ok, tg, e, h => by
    unfold chI at h
    exact PI.to (i_ofL ok.fx.K (soE a ok _ h)) (by funext ρ st Q; rw [denI])
end
end
end G
/-! The checker of statements; targets; freezing. -/
namespace G
open PySem PySem.Spec PyProof.Rows L2 C8
/-! ### the checker -/
def isComp : Expr → Bool | .ListComp _ _ _ _ => true | .SetComp _ _ _ _ => true | .DictComp _ _ _ _ _ => true | _ => false
def okC : Expr → Bool | .SetComp _ _ _ _ => false | .DictComp _ _ _ _ _ => false | _ => true
/-- name = [..] is stored inside the comprehension's block -/
def swapB (sc : Scope) (x : Str) (px : Pos) : Expr → Bool
  | .ListComp _ _ s p => (match sc.names.lookup x with | some .local => true | _ => false) && px.line == p.line && !(s.names.any fun (n, k) => n == x && (k == .local || k == .cell))
  | _ => false
def tyB (sc : Scope) (l : Nat) : Expr → Bool | .Name x p => (match sc.names.lookup x with | some .local => true | _ => false) && p.line == l | _ => false
/-- a, b = x, y is stored in the usual order -/
def ordB (sc : Scope) (ts : List Expr) : Expr → Bool
  | .Tuple vs _ _ => !(ts.length == 2 || ts.length == 3) || vs.all (foldedForSure 8) || !ts.all (tyB sc ((ts.head?.map (·.pos.line)).getD 0))
  | _ => true
def hereB (sc : Scope) (x : Str) : Bool := match sc.names.lookup x with | some .local => true | _ => false
def docB : Stmt → Bool | .Expr (.Constant (.str _) _ _) _ => true | .Pass _ => true | _ => false
mutual
def chS (κ : Kx) (sc : Scope) : S → Stmt → Bool
  | .exp a, s => match s with | .Expr e _ => !isComp e && chE κ sc a e | _ => false
  | .asg p a, s => match s with
    | .Assign [.Name x px] e _ => (match p with | .var i => nmB κ i x && locB sc x | _ => false) && (if swapB sc x px e then (match a with | .fr q => chP κ sc q e && cmpB q | .bx q => chP κ sc q e && cmpB q | _ => false) else okC e && chE κ sc a e)
    | .Assign [.Tuple ts k tp] e _ => chPt κ sc p (.Tuple ts k tp) && ordB sc ts e && chE κ sc a e
    | _ => false
  | .par is as, s => match s with
    | .Assign [.Tuple [.Name x px, .Name y py] _ _] (.Tuple vs _ _) _ => (match is with | [i, j] => nmB κ i x && nmB κ j y && decide (i ≠ j) | _ => false) && hereB sc x && hereB sc y && decide (x ≠ y) && py.line == px.line &&
        decide (vs.length = 2) && !vs.all (foldedForSure 8) && !vs.all (constantsAlone 8) && chEs κ sc as vs
    | .Assign [.Tuple [.Name x px, .Name y py, .Name z pz] _ _] (.Tuple vs _ _) _ => (match is with | [i, j, l] => nmB κ i x && nmB κ j y && nmB κ l z && decide (i ≠ j) && decide (i ≠ l) && decide (j ≠ l) | _ => false) && hereB sc x && hereB sc y && hereB sc z && decide (x ≠ y) && decide (x ≠ z) && decide (y ≠ z) &&
        py.line == px.line && pz.line == px.line && decide (vs.length = 3) && !vs.all (foldedForSure 8) && !vs.all (constantsAlone 8) && chEs κ sc as vs
    | _ => false
  | .sto o i a, s => match s with | .Assign [.Subscript x y _] e _ => nslB y && chE κ sc a e && chE κ sc o x && chE κ sc i y | _ => false
  | .slst o lo hi a, s => match s with | .Assign [.Subscript x (.Slice (some l) (some h) none _) _] e _ => chE κ sc a e && chE κ sc o x && chE κ sc lo l && chE κ sc hi h | _ => false
  | .fld o f a, s => match s with | .Assign [.Attribute x g _] e _ => decide (f = g) && chE κ sc a e && chE κ sc o x | _ => false
  | .aug i op a, s => match s with | .AugAssign (.Name x _) op' e _ => decide (op = op') && (match op with | .Add => true | .Sub => true | _ => false) && nmB κ i x && locB sc x && chE κ sc a e | _ => false
  | .augs o i op a, s => match s with | .AugAssign (.Subscript x y _) op' e _ => decide (op = op') && (match op with | .Add => true | .Sub => true | _ => false) && nslB y && chE κ sc o x && chE κ sc i y && chE κ sc a e | _ => false
  | .ret a, s => match s with | .Return (some e) _ => chE κ sc a e | _ => false
  | .retN, s => match s with | .Return none _ => true | _ => false
  | .ife c a b, s => match s with | .If t x y _ => chT κ sc c t && chSs κ sc a x && chSs κ sc b y | _ => false
  | .for p it b, s => match s with | .For tg e x [] _ => chPt κ sc p tg && chI κ sc it tg e && nsetB e && chSs κ sc b x | _ => false
  | .whl c b, s => match s with | .While t x [] _ => chT κ sc c t && chSs κ sc b x | _ => false
  | .brk, s => match s with | .Break _ => true | _ => false
  | .cnt, s => match s with | .Continue _ => true | _ => false
  | .pass, s => docB s
  | .never, _ => true
  | .gfz _, _ => false
  | .gff _ _, _ => false
def chSs (κ : Kx) (sc : Scope) : Ss → List Stmt → Bool
  | .nil, l => match l with | [] => true | _ => false
  | .cons s ss, l => match s with
    | .gfz _ => chSs κ sc ss l
    | .gff _ _ => chSs κ sc ss l
    | s => match l with | x :: xs => chS κ sc s x && chSs κ sc ss xs | [] => false
def cmpB : P → Bool | .comp _ _ _ _ => true | .compif _ _ _ _ _ => true | .comp2 _ _ _ _ _ _ _ _ _ => true | _ => false
end

end G
/-! The checker is right: statements. -/
namespace G
open PySem PySem.Spec PyProof.Rows L2 C8
/-- at a def's own level -/
structure Oks (Γ : Ctx) (W : Wd) (κ : Kx) (sc : Scope) (X : Cx) : Prop extends Okk Γ W κ sc X where
  kind : sc.kind = .function
  pas : PassesOwn (model X.prog X.w) X.A X.env X.xe
  fnT : ∀ x, X.fn x = true
/-- a statement's reading lifted -/
def LSt (W : Wd) (m : Kn → Env → Store → Prop) : TS := fun D σ H => ∃ B ρ st K, R W B ρ st σ H ∧ m K ρ st ∧
  (∀ ρ' st' σ' H', K.nx ρ' st' → R W B ρ' st' σ' H' → Grow st H st' H' → D.nx σ' H') ∧
  (∀ d st' v H', K.rt d st' → Rep W B st' H' v d → RH W B st' H' → Grow st H st' H' → D.rt v H') ∧
  (∀ ρ' st' σ' H', K.bk ρ' st' → R W B ρ' st' σ' H' → Grow st H st' H' → D.bk σ' H') ∧
  (∀ ρ' st' σ' H', K.ct ρ' st' → R W B ρ' st' σ' H' → Grow st H st' H' → D.ct σ' H')
theorem _root_.L2.PS.to {X : Cx} {W : Wd} {e : Stmt} {m m' : Kn → Env → Store → Prop} (h : PS X e (LSt W m)) (i : m' = m) : PS X e (LSt W m') := by rw [i]; exact h
theorem _root_.L2.PSs.to {X : Cx} {W : Wd} {e : List Stmt} {m m' : Kn → Env → Store → Prop} (h : PSs X e (LSt W m)) (i : m' = m) : PSs X e (LSt W m') := by rw [i]; exact h
section
variable {X : Cx} {W : Wd} {pos : Pos}
theorem t_nil : PSs X [] (LSt W fun K ρ st => K.nx ρ st) := pss_nil.mono fun D σ H ⟨B, ρ, st, K, r, h, q, _⟩ => q _ _ _ _ h r (Grow.refl _ _)
theorem t_cons {s : Stmt} {ss : List Stmt} {m ms : Kn → Env → Store → Prop} (h1 : PS X s (LSt W m)) (h2 : PSs X ss (LSt W ms)) : PSs X (s :: ss) (LSt W fun K ρ st => m { K with nx := fun ρ1 st1 => ms K ρ1 st1 } ρ st) := by
  refine (pss_cons h1 h2).mono fun D σ H ⟨B, ρ, st, K, r, h, q1, q2, q3, q4⟩ => ?_
  refine ⟨B, ρ, st, _, r, h, fun ρ' st' σ' H' k r' g => ?_, q2, q3, q4⟩
  exact ⟨B, ρ', st', K, r', k, fun a b c d e f g' => q1 a b c d e f (g.trans g'), fun a b c d e f g' i => q2 a b c d e f g' (g.trans i), fun a b c d e f g' => q3 a b c d e f (g.trans g'), fun a b c d e f g' => q4 a b c d e f (g.trans g')⟩
theorem t_exp {e : Expr} {m : M} (he : PE X e (LE W m)) (hs : swapsWith e none pos.line X.env = pure false) : PS X (.Expr e pos) (LSt W fun K ρ st => m ρ st fun _ st1 => K.nx ρ st1) :=
  (ps_expr he hs).mono fun D σ H ⟨B, ρ, st, K, r, h, q, _⟩ => ⟨B, ρ, st, _, r, h, fun d st1 v H1 h1 r1 o1 g1 => q _ _ _ _ h1 (r.step g1 o1) g1⟩
theorem t_set {i : Nat} {m : M} : ∀ (D : Ends) σ H, LSt W (fun K ρ st => m ρ st fun d st1 => K.nx (ρ.set i (some d)) st1) D σ H → tAsg (LE W m) (gName i) D σ H := fun D σ H ⟨B, ρ, st, K, r, h, q, _⟩ =>
  ⟨B, ρ, st, _, r, h, fun d st1 v H1 h1 r1 o1 g1 => q _ _ _ _ h1 ((r.step g1 o1).set i r1) g1⟩
theorem t_asg {p : Pt} {m : M} : ∀ (D : Ends) σ H, LSt W (fun K ρ st => m ρ st fun d st1 => asg p d ρ fun ρ1 => K.nx ρ1 st1) D σ H → tAsg (LE W m) (LG W p) D σ H := fun D σ H ⟨B, ρ, st, K, r, h, q, _⟩ =>
  ⟨B, ρ, st, _, r, h, fun d st1 v H1 h1 r1 o1 g1 => ⟨B, ρ, st1, d, _, r.step g1 o1, r1, h1, fun ρ' σ' k r' _ => q _ _ _ _ k r' g1⟩⟩
theorem fr_lift {m : MP} : ∀ σ H Q, LE W (fun ρ st Q => m ρ st fun o st1 => match o with
    | .lst ds => Q (.lst ds) st1
    | .dct kvs _ => Q (.dct kvs) st1
    | _ => False) σ H Q → LP W m σ H Q := by
  intro σ H Q ⟨B, ρ, st, P, r, h, q⟩
  refine ⟨B, ρ, st, _, r, h, fun o st1 H1 p u h1 hp n o1 g1 => ?_⟩
  cases o with
  | lst ds =>
    obtain ⟨vs, rfl, l⟩ := n
    exact q _ _ _ _ h1 (Rep.newLst o1 hp l) (o1.same (same_upd hp)) (g1.trans (Grow.same (same_upd hp)))
  | dct kvs =>
    obtain ⟨es, rfl, hs, l, nd⟩ := n
    exact q _ _ _ _ h1 (.dct (o1.free hp) upd_same hs (l.grow (Grow.same (same_upd hp))) nd) (o1.same (same_upd hp)) (g1.trans (Grow.same (same_upd hp)))
  | ins _ _ => exact n.elim
theorem bx_lift {m : MP} : ∀ σ H Q, LE W (fun ρ st Q => m ρ st fun o st1 => ∀ a, st1 a = none → Q (.loc a) (st1.set a o)) σ H Q → LP W m σ H Q := by
  intro σ H Q ⟨B, ρ, st, P, r, h, q⟩
  refine ⟨B, ρ, st, _, r, h, fun o st1 H1 p u h1 hp n o1 g1 => ?_⟩
  obtain ⟨o2, g2⟩ := o1.alloc (u := u) (o' := o) hp fun g => by
    cases o with
    | lst ds => obtain ⟨vs, rfl, l⟩ := n; exact ⟨vs, upd_same, l.grow g⟩
    | dct kvs => obtain ⟨es, rfl, hs, l, nd⟩ := n; exact ⟨es, upd_same, hs, l.grow g, nd⟩
    | ins _ _ => exact n.elim
  exact q _ _ _ _ (h1 p (o1.free hp).1) (.loc p) o2 (g1.trans g2)
theorem t_ret {e : Expr} {m : M} (he : PE X e (LE W m)) : PS X (.Return (some e) pos) (LSt W fun K ρ st => m ρ st K.rt) :=
  (ps_ret he).mono fun D σ H ⟨B, ρ, st, K, r, h, q1, q2, _⟩ => ⟨B, ρ, st, _, r, h, q2⟩
theorem t_retN : PS X (.Return none pos) (LSt W fun K _ st => K.rt .non st) := ps_retN.mono fun D σ H ⟨B, ρ, st, K, r, h, q1, q2, _⟩ => q2 _ _ _ _ h .non r.ob (Grow.refl _ _)
theorem t_if {c : Expr} {a b : List Stmt} {mc : M} {ma mb : Kn → Env → Store → Prop} (hc : PT X c (LT W mc)) (ha : PSs X a (LSt W ma)) (hb : PSs X b (LSt W mb)) :
    PS X (.If c a b pos) (LSt W fun K ρ st => mc ρ st fun d st1 => ∃ t, d = .bl t ∧ (if t = true then ma K ρ st1 else mb K ρ st1)) := by
  refine (ps_if hc ha hb).mono fun D σ H ⟨B, ρ, st, K, r, h, q1, q2, q3, q4⟩ => ?_
  refine ⟨B, ρ, st, _, r, h, fun d st1 H1 ⟨t, e, k⟩ o1 g1 => ⟨t, e, ?_⟩⟩
  have mk : ∀ {m : Kn → Env → Store → Prop}, m K ρ st1 → LSt W m D σ H1 := fun k => ⟨B, ρ, st1, K, r.step g1 o1, k, fun a b c d e f g' => q1 a b c d e f (g1.trans g'), fun a b c d e f g' i => q2 a b c d e f g' (g1.trans i), fun a b c d e f g' => q3 a b c d e f (g1.trans g'), fun a b c d e f g' => q4 a b c d e f (g1.trans g')⟩
  cases t with
  | true => simp only [if_true] at k ⊢; exact mk k
  | false => simp only [Bool.false_eq_true, if_false] at k ⊢; exact mk k
theorem t_brk : PS X (.Break pos) (LSt W fun K ρ st => K.bk ρ st) := ps_break.mono fun D σ H ⟨B, ρ, st, K, r, h, q1, q2, q3, q4⟩ => q3 _ _ _ _ h r (Grow.refl _ _)
theorem t_cnt : PS X (.Continue pos) (LSt W fun K ρ st => K.ct ρ st) := ps_continue.mono fun D σ H ⟨B, ρ, st, K, r, h, q1, q2, q3, q4⟩ => q4 _ _ _ _ h r (Grow.refl _ _)
theorem nx_lift : ∀ (D : Ends) σ H, LSt W (fun K ρ st => K.nx ρ st) D σ H → tNext D σ H := fun D σ H ⟨B, ρ, st, K, r, h, q, _⟩ => q _ _ _ _ h r (Grow.refl _ _)
theorem t_never {s : Stmt} : PS X s (LSt W fun _ _ _ => False) := ps_never.mono fun D σ H ⟨B, ρ, st, K, r, h, q, _⟩ => h.elim
/-- freezing a name's value -/
theorem t_gfz {ss : List Stmt} {i : Nat} {ms : Kn → Env → Store → Prop} (h : PSs X ss (LSt W ms)) : PSs X ss (LSt W fun K ρ st => match ρ[i]? with
    | some (some x) => ∃ st2 y, (∀ a o, st2 a = some o → st a = some o) ∧ Fz st st2 x y ∧ ms K (ρ.set i (some y)) st2
    | _ => False) := by
  refine h.mono fun D σ H ⟨B, ρ, st, K, r, h, q1, q2, q3, q4⟩ => ?_
  dsimp only at h
  split at h
  · rename_i x e
    obtain ⟨st2, y, l, z, h1⟩ := h
    obtain ⟨o2, g⟩ := r.ob.less l
    obtain ⟨v, e1, rv⟩ := r.var i x e
    have r2 := z.rep r.ob l rv
    have R2 := (r.step g o2).set i r2
    have es : σ.set i (some v) = σ := by
      apply List.ext_getElem?
      intro j
      by_cases hj : i = j
      · subst hj
        rw [e1]
        exact List.getElem?_set_self (by
          rcases Nat.lt_or_ge i σ.length with q | q
          · exact q
          · rw [List.getElem?_eq_none q] at e1; cases e1)
      · rw [List.getElem?_set_ne hj]
    rw [es] at R2
    exact ⟨B, _, st2, K, R2, h1, fun a b c d e f g' => q1 a b c d e f (g.trans g'), fun a b c d e f g' i => q2 a b c d e f g' (g.trans i), fun a b c d e f g' => q3 a b c d e f (g.trans g'), fun a b c d e f g' => q4 a b c d e f (g.trans g')⟩
  · exact h.elim
/-! for, while -/
theorem t_for {tg e : Expr} {body : List Stmt} {mi : MI} {p : Pt} {mb : Env → Store → Kn → Prop} (hp : PassesOwn (model X.prog X.w) X.A X.env X.xe) (hc : X.calm = true) (hi : PI X tg e (LI W mi)) (hg : PG X tg (LG W p)) (hb : PSs X body (LSt W fun K ρ st => mb ρ st K))
    (hs : ∀ x, foldedSetIterable e X.env x = pure x) : PS X (.For tg e body [] pos) (LSt W fun K ρ st => mi ρ st fun ds C st1 => forL p mb K C ds ρ st1) := by
  refine (ps_for hp hc hi hg hb hs).mono fun D σ H ⟨B, ρ, st, K, r, h, q1, q2, q3, q4⟩ => ?_
  refine ⟨B, ρ, st, _, r, h, fun ds C st1 J H1 h1 wk o1 g1 => ?_⟩
  refine ⟨fun i m σ' H' => i ≤ ds.length ∧ m = ds.length - i ∧ ∃ ρ' st', R W B ρ' st' σ' H' ∧ Grow st1 H1 st' H' ∧ forL p mb K C (ds.drop i) ρ' st', ⟨ds.length, Nat.zero_le _, rfl, ρ, st1, r.step g1 o1, Grow.refl _ _, h1⟩, ?_⟩
  rintro i m σ' H' ⟨hle, rfl, ρ', st', r', g', hf⟩
  have hC : C st' := by
    cases z : ds.drop i with
    | nil => rw [z] at hf; exact hf.1
    | cons _ _ => rw [z] at hf; exact hf.1
  obtain ⟨wg, ws, wy⟩ := wk B st' H' (fun a z => .inl z) g'.b r'.ob hC
  by_cases hlt : i < ds.length
  · refine .inr ⟨wg i hlt, fun σ2 H2 => ∃ ρ2 st2, R W B ρ2 st2 σ2 H2 ∧ Grow st1 H1 st2 H2 ∧ forL p mb K C (ds.drop (i + 1)) ρ2 st2, fun σ2 H2 ⟨ρ2, st2, z⟩ => ⟨ds.length - (i + 1), by omega, hlt, rfl, ρ2, st2, z⟩, fun x H3 hy => ?_⟩
    have hdi : ds[i]? = some ds[i] := List.getElem?_eq_getElem hlt
    obtain ⟨rx, sm⟩ := wy i ds[i] x H3 hdi hy
    have hdr : ds.drop i = ds[i] :: ds.drop (i + 1) := List.drop_eq_getElem_cons hlt
    rw [hdr] at hf
    replace hf := hf.2
    refine ⟨B, ρ', st', ds[i], _, r'.same sm, rx, hf, fun ρ1 σ1 hm r4 _ => ?_⟩
    have g4 : Grow st1 H1 st' H3 := g'.trans (Grow.same sm)
    exact ⟨B, ρ1, st', _, r4, hm, fun a b c d e f g => ⟨a, b, f, g4.trans g, e⟩, fun a b c d e f g' i => q2 a b c d e f g' (g1.trans (g4.trans i)), fun a b c d e f g => q1 a b c d e f (g1.trans (g4.trans g)), fun a b c d e f g => ⟨a, b, f, g4.trans g, e⟩⟩
  · have e : i = ds.length := by omega
    subst e
    rw [List.drop_length] at hf
    exact .inl ⟨ws, q1 _ _ _ _ hf.2 r' (g1.trans g')⟩
theorem t_while {c : Expr} {body : List Stmt} {mc : M} {mb : Env → Store → Kn → Prop} (hp : PassesOwn (model X.prog X.w) X.A X.env X.xe) (hc : PT X c (LT W mc)) (hb : PSs X body (LSt W fun K ρ st => mb ρ st K)) :
    PS X (.While c body [] pos) (LSt W fun K ρ st => ∃ n, whlN mc mb K n ρ st) := by
  refine (ps_while hp hc hb).mono fun D σ H ⟨B, ρ, st, K, r, ⟨n, h⟩, q1, q2, q3, q4⟩ => ?_
  refine ⟨fun m σ' H' => ∃ ρ' st', R W B ρ' st' σ' H' ∧ Grow st H st' H' ∧ whlN mc mb K m ρ' st', ⟨n, ρ, st, r, Grow.refl _ _, h⟩, ?_⟩
  rintro m σ' H' ⟨ρ', st', r', g', hw⟩
  cases m with
  | zero => exact hw.elim
  | succ m =>
    refine ⟨B, ρ', st', _, r', hw, fun d st1 H1 ⟨b, e, k⟩ o1 g1 => ⟨b, e, ?_⟩⟩
    cases b with
    | true =>
      simp only [if_true] at k ⊢
      refine ⟨fun σ2 H2 => ∃ ρ2 st2, R W B ρ2 st2 σ2 H2 ∧ Grow st H st2 H2 ∧ whlN mc mb K m ρ2 st2, fun σ2 H2 z => ⟨m, by omega, z⟩, ?_⟩
      have g4 : Grow st H st1 H1 := g'.trans g1
      exact ⟨B, ρ', st1, _, r'.step g1 o1, k, fun a b c d e f g => ⟨a, b, f, g4.trans g, e⟩, fun a b c d e f g' i => q2 a b c d e f g' (g4.trans i), fun a b c d e f g => q1 a b c d e f (g4.trans g), fun a b c d e f g => ⟨a, b, f, g4.trans g, e⟩⟩
    | false =>
      simp only [Bool.false_eq_true, if_false] at k ⊢
      exact q1 _ _ _ _ k (r'.step g1 o1) (g'.trans g1)
/-! stores -/
theorem t_sto {o i e : Expr} {mo mi me : M} {p : Pos} (hK : X.K = W.K) (hw : X.w = W.w) (hu : X.A.units + 64 < cLine) (he : PE X e (LE W me)) (ho : PE X o (LE W mo)) (hi : PE X i (LE W mi)) (hn : nslB i = true) :
    PS X (.Assign [.Subscript o i p] e pos) (LSt W fun K ρ st => me ρ st fun d st1 => mo ρ st1 fun x st2 => mi ρ st2 fun y st3 => ∃ a ob, x = .loc a ∧ st3 a = some ob ∧ stoR ob y d fun ob' => K.nx ρ (st3.set a ob')) := by
  have hset : PSet X (fun o i v H Q => rSetL o i v H Q ∨ (∃ (B : Addr → Prop) (st : Store) (a : Addr) (kvs : List (D × D)) (ep : Nat) (y d : D), o = .ref a ∧ RH W B st H ∧ st a = some (.dct kvs ep) ∧ Rep W B st H i y ∧ Rep W B st H v d ∧ isKey y = true ∧ kvs.length < sizeLine ∧ ∀ ep' H', RH W B (st.set a (.dct (G.put kvs y d) ep')) H' → Grow st H (st.set a (.dct (G.put kvs y d) ep')) H' → Q H')) := fun pins s σ H o i v ov iv u Q I ro ri rv h => h.elim (fun h => set_list pins s σ H o i v ov iv u Q I ro ri rv h) (fun h => set_dct hK hw hu pins s σ H o i v ov iv u Q I ro ri rv h)
  refine (ps_asg he (pg_sub ho hi hset (by intro v; cases i <;> first | rfl | cases hn)) (by cases e <;> rfl) (by cases e <;> rfl)).mono fun D σ H ⟨B, ρ, st, K, r, h, q1, _⟩ => ?_
  refine ⟨B, ρ, st, _, r, h, fun d1 st1 v1 H1 h1 r1 o1 g1 => ⟨B, ρ, st1, _, r.step g1 o1, h1, fun d2 st2 v2 H2 h2 r2 o2 g2 => ?_⟩⟩
  refine ⟨B, ρ, st2, _, r.step (g1.trans g2) o2, h2, fun d3 st3 v3 H3 ⟨a, ob, e1, e2, h3⟩ r3 o3 g3 => ?_⟩
  subst e1
  cases r2
  cases ob with
  | lst xs =>
    obtain ⟨j, n, e3, e4, h3⟩ := h3
    subst e3
    cases r3
    obtain ⟨us, w2, l2⟩ := o3.ob _ _ e2
    obtain ⟨o4, g4⟩ := setL o3 e2 (l2.set (r1.grow (g2.trans g3)) n)
    have gg := g1.trans (g2.trans (g3.trans g4))
    exact .inl ⟨a, us, j, n, rfl, rfl, w2, by rw [l2.length]; exact e4, q1 _ _ _ _ h3 (r.step gg o4) gg⟩
  | dct kvs ep =>
    obtain ⟨hy, hz, h3⟩ := h3
    refine .inr ⟨B, st3, a, kvs, ep, d3, d1, rfl, o3, e2, r3, r1.grow (g2.trans g3), hy, hz, fun ep' H4 o4 g4 => ?_⟩
    have gg := g1.trans (g2.trans (g3.trans g4))
    exact q1 _ _ _ _ (h3 ep') (r.step gg o4) gg
  | ins c fs => exact h3.elim
theorem t_fld {o e : Expr} {mo me : M} {f : Str} {cf : Str → Str → Bool} {p : Pos} (hcf : ∀ c C, cf c f = true → W.cls c = some C → Cls X.K C ∧ NoAttr X.K C f) (he : PE X e (LE W me)) (ho : PE X o (LE W mo)) :
    PS X (.Assign [.Attribute o f p] e pos) (LSt W fun K ρ st => me ρ st fun d st1 => mo ρ st1 fun x st2 => ∃ a c fs, x = .loc a ∧ st2 a = some (.ins c fs) ∧ cf c f = true ∧ fs.length < 100 ∧ K.nx ρ (st2.set a (.ins c (G.putF f d fs)))) := by
  refine (ps_fld ho he (by cases e <;> rfl)).mono fun D σ H ⟨B, ρ, st, K, r, h, q1, _⟩ => ?_
  refine ⟨B, ρ, st, _, r, h, fun d1 st1 v1 H1 h1 r1 o1 g1 => ⟨B, ρ, st1, _, r.step g1 o1, h1, fun d2 st2 v2 H2 ⟨a, c, fs, e1, e2, e3, e4, h2⟩ r2 o2 g2 => ?_⟩⟩
  subst e1
  cases r2
  obtain ⟨C, dx, gs, w, k, l⟩ := o2.ob _ _ e2
  obtain ⟨c1, c2⟩ := hcf c C e3 k
  obtain ⟨o4, g4⟩ := o2.write (u := .ins C dx (L2.putF f v1 gs)) (o' := .ins c (G.putF f d1 fs)) e2 fun g => ⟨C, dx, _, upd_same, k, (l.grow g).put ((r1.grow g2).grow g)⟩
  have gg := g1.trans (g2.trans g4)
  exact ⟨a, C, dx, gs, rfl, w, c1, c2, by rw [l.length]; omega, q1 _ _ _ _ h2 (r.step gg o4) gg⟩
theorem t_aug {i : Nat} {x : Str} {e : Expr} {me : M} {op : Operator} {p : Pos} (hN : X.N.Nodup) (hi : X.N[i]? = some x) (hx : Loc X.env.scope x) (hf : X.fn x = true) (he : PE X e (LE W me)) (ho : op = .Add ∨ op = .Sub) :
    PS X (.AugAssign (.Name x p) op e pos) (LSt W fun K ρ st => match ρ[i]? with
    | some (some x) => me ρ st fun y st1 => ∃ m n, x = .int m ∧ y = .int n ∧ opR op x y fun z => K.nx (ρ.set i (some z)) st1
    | _ => False) := by
  rcases ho with rfl | rfl
  · refine (ps_aug hN hi hx he ip_add (.inl hf)).mono fun D σ H ⟨B, ρ, st, K, r, h, q1, _⟩ => ?_
    dsimp only at h
    split at h
    · rename_i d e
      obtain ⟨v, e1, rv⟩ := r.var i d e
      refine ⟨v, e1, B, ρ, st, _, r, h, fun d1 st1 v1 H1 ⟨m, n, e2, e3, h1⟩ r1 o1 g1 => ?_⟩
      subst e2 e3
      cases rv; cases r1
      exact ⟨m, n, rfl, rfl, q1 _ _ _ _ h1 ((r.step g1 o1).set i (.int _)) g1⟩
    · exact h.elim
  · refine (ps_aug hN hi hx he ip_sub (.inl hf)).mono fun D σ H ⟨B, ρ, st, K, r, h, q1, _⟩ => ?_
    dsimp only at h
    split at h
    · rename_i d e
      obtain ⟨v, e1, rv⟩ := r.var i d e
      refine ⟨v, e1, B, ρ, st, _, r, h, fun d1 st1 v1 H1 ⟨m, n, e2, e3, h1⟩ r1 o1 g1 => ?_⟩
      subst e2 e3
      cases rv; cases r1
      exact ⟨m, n, rfl, rfl, q1 _ _ _ _ h1 ((r.step g1 o1).set i (.int _)) g1⟩
    · exact h.elim
theorem get_dct (hK : X.K = W.K) (hw : X.w = W.w) (hu : X.A.units + 64 < cLine) : PGet X (r2 W fun st a i k => ∃ kvs d, dctOf st a = some kvs ∧ isKey i = true ∧ G.look kvs i = some d ∧ k d) := by
  intro pins s σ H x y v u Q I rx ry ⟨B, st, d1, d2, P, h, r1, r2, ⟨kvs, d, e, hy, hlk, k⟩, q⟩
  obtain ⟨a, rfl⟩ := key_ref hy r2
  obtain ⟨kk, hk, hd⟩ := key_of hy
  obtain ⟨b, es, ep, rfl, f, hs, l, n⟩ := dct_of h r1 e
  cases (show u = Value.ref a from ry)
  cases (show v = Value.ref b from rx)
  obtain ⟨l', hl, rfl⟩ := l.kl
  have hm := dict_raw hK hw I f hl n
  rcases KL.look hk hl with ⟨h1, h2⟩ | ⟨p, d', v', h1, h2, h3, h4⟩
  · rw [h2] at hlk; cases hlk
  · rw [h2] at hlk; cases hlk
    exact wpAny_getItem_heap (knd := nestedKind X.prog X.w) (by show X.A.units + 8 + 1 < cLine; omega) (dat_nis hK I hk hd r2) hm h1 ⟨v', H, I.tok _, h3, q _ _ _ k h4 (Same.refl _)⟩
/-- d[k] += n -/
theorem t_augs {o i e : Expr} {mo mi me : M} {op : Operator} {p : Pos} (hK : X.K = W.K) (hw : X.w = W.w) (hu : X.A.units + 64 < cLine) (ho : PE X o (LE W mo)) (hi : PE X i (LE W mi)) (he : PE X e (LE W me)) (hn : nslB i = true) (hop : op = .Add ∨ op = .Sub) :
    PS X (.AugAssign (.Subscript o i p) op e pos) (LSt W fun K ρ st => mo ρ st fun x st1 => mi ρ st1 fun y st2 => ∃ a zs ep u, x = .loc a ∧ st2 a = some (.dct zs ep) ∧ isKey y ∧ look zs y = some u ∧ me ρ st2 fun v st3 => ∃ m n kvs ep, u = .int m ∧ v = .int n ∧
      st3 a = some (.dct kvs ep) ∧ kvs.length < sizeLine ∧ opR op u v fun z => ∀ ep, K.nx ρ (st3.set a (.dct (put kvs y z) ep))) := by
  have go : ∀ {f : Int → Int → Int}, PIp X op (ipI f) → (∀ m n (k : D → Prop), opR op (.int m) (.int n) k → k (.int (f m n))) → PS X (.AugAssign (.Subscript o i p) op e pos) (LSt W fun K ρ st => mo ρ st fun x st1 => mi ρ st1 fun y st2 => ∃ a zs ep u, x = .loc a ∧ st2 a = some (.dct zs ep) ∧ isKey y ∧ look zs y = some u ∧ me ρ st2 fun v st3 => ∃ m n kvs ep, u = .int m ∧ v = .int n ∧
      st3 a = some (.dct kvs ep) ∧ kvs.length < sizeLine ∧ opR op u v fun z => ∀ ep, K.nx ρ (st3.set a (.dct (put kvs y z) ep))) := by
    intro f hip hf
    refine (ps_augS ho hi (get_dct hK hw hu) he hip (set_dct hK hw hu) (by intro ov iv new; cases i <;> first | rfl | cases hn)).mono fun D σ H ⟨B, ρ, st, K, r, h, q1, _⟩ => ?_
    refine ⟨B, ρ, st, _, r, h, fun d1 st1 v1 H1 h1 r1 o1 g1 => ⟨B, ρ, st1, _, r.step g1 o1, h1, fun d2 st2 v2 H2 ⟨a, zs, ep, u, e1, e2, hy, hlk, h2⟩ r2 o2 g2 => ?_⟩⟩
    subst e1
    cases r1
    have e2' : dctOf st2 (.loc a) = some zs := by show (match st2 a with | some (.dct xs _) => some xs | _ => none) = _; rw [e2]
    refine ⟨B, st2, .loc a, d2, fun w => w = u, o2, .loc a, r2, ⟨zs, u, e2', hy, hlk, rfl⟩, fun w vw H3 ew rw' sm => ?_⟩
    subst ew
    have R3 := (r.step (g1.trans g2) o2).same sm
    refine ⟨B, ρ, st2, _, R3, h2, fun d3 st3 v3 H4 ⟨m, n, kvs, ep', e3, e4, e5, hz, h3⟩ r3 o3 g3 => ?_⟩
    subst e3 e4
    cases rw'; cases r3
    refine ⟨m, n, rfl, rfl, B, st3, a, kvs, ep', d2, .int (f m n), rfl, o3, e5, (r2.grow (Grow.same sm)).grow g3, .int _, hy, hz, fun ep2 H5 o5 g5 => ?_⟩
    have gg := g1.trans (g2.trans ((Grow.same sm).trans (g3.trans g5)))
    exact q1 _ _ _ _ (hf m n _ h3 ep2) (r.step gg o5) gg
  rcases hop with rfl | rfl
  · exact go ip_add fun m n k h => h
  · exact go ip_sub fun m n k h => h
/-- a field's value frozen -/
theorem t_gff {ss : List Stmt} {i : Nat} {f : Str} {ms : Kn → Env → Store → Prop} (h : PSs X ss (LSt W ms)) : PSs X ss (LSt W fun K ρ st => ∃ a c fs y st2 z, ρ[i]? = some (some (.loc a)) ∧ st a = some (.ins c fs) ∧ fs.lookup f = some y ∧ (∀ b o, st2 b = some o → st b = some o) ∧ st2 a = some (.ins c fs) ∧ Fz st st2 y z ∧
    ms K ρ (st2.set a (.ins c (putF f z fs)))) := by
  refine h.mono fun D σ H ⟨B, ρ, st, K, r, ⟨a, c, fs, y, st2, z, e1, e2, e3, l, e4, fz, h1⟩, q1, q2, q3, q4⟩ => ?_
  obtain ⟨o2, g⟩ := r.ob.less l
  obtain ⟨C, dx, gs, w, k, lf⟩ := r.ob.ob _ _ e2
  obtain ⟨v, ev, rv⟩ := lf.lookup f y e3
  have r2 := fz.rep r.ob l rv
  obtain ⟨C', dx', gs', w', k', lf'⟩ := o2.ob _ _ e4
  rw [w] at w'; cases w'
  have hput : L2.putF f v gs = gs := by
    clear lf lf' w
    induction gs with
    | nil => simp at ev
    | cons p gs ih =>
      unfold L2.putF
      rw [List.lookup_cons] at ev
      by_cases hp : p.1 = f
      · rw [if_pos hp]
        have : (f == p.1) = true := by rw [hp]; exact beq_self_eq_true f
        rw [this] at ev
        cases ev
        subst hp; rfl
      · rw [if_neg hp]
        have : (f == p.1) = false := beq_eq_false_iff_ne.mpr fun z => hp z.symm
        rw [this] at ev
        rw [ih ev]
  have hH : upd H a (.ins C dx gs) = H := by
    funext b
    unfold upd
    by_cases e : b = a
    · rw [if_pos e, e, w]
    · rw [if_neg e]
  obtain ⟨o4, g4⟩ := o2.write (u := .ins C dx gs) (o' := .ins c (G.putF f z fs)) e4 fun g => ⟨C, dx, gs, upd_same, k, by have z := (lf'.grow g).put (f := f) (r2.grow g); rw [hput] at z; exact z⟩
  rw [hH] at o4 g4
  have gg := g.trans g4
  exact ⟨B, ρ, _, K, r.step gg o4, h1, fun a b c d e f g' => q1 a b c d e f (gg.trans g'), fun a b c d e f g' i => q2 a b c d e f g' (gg.trans i), fun a b c d e f g' => q3 a b c d e f (gg.trans g'), fun a b c d e f g' => q4 a b c d e f (gg.trans g')⟩
end
end G
/-! xs[a:c] = ys, c behind the end or not. -/
namespace G
open PySem PySem.Spec PyProof.Rows L2 C8
section
variable {prog : Program} {w : World} {A : Around} {E : Value → Shared → Prop} {s : Shared}
theorem bounds_clip {a c n : Nat} (ha : a ≤ n) : sliceBounds (some (a : Int)) (some (c : Int)) none n = ((a : Int), ((min c n : Nat) : Int), 1) := by
  have z : ∀ m : Nat, ¬ ((m : Int) < 0) := fun m => by omega
  simp only [sliceBounds, Option.getD_none, z, if_false, show (1 : Int) > 0 from by decide, if_true]; congr 1
  · omega
  · congr 1; omega
/-- xs[a:c] = new at the machine: c is cut to the length -/
theorem setItem_clip {at_ from_ sl : Addr} {old new : Array Value} {m m2 : Nat} {vl vu : Value} {a c : Nat} {Q : Unit → Shared → Prop}
    (e1 : s.heap.get? at_ = some { cls := .type "list", data := .seq old m }) (e2 : s.heap.get? from_ = some { cls := .type "list", data := .seq new m2 }) (ne : at_ ≠ from_)
    (hs : s.heap.IsSliceOf sl vl vu .none) (pl : IsPart vl (some (a : Int))) (pu : IsPart vu (some (c : Int))) (hac : a ≤ c) (ha : a ≤ old.size)
    (room : old.size + new.size ≤ sizeLine) (fin : Q () { s with heap := s.heap.update at_ (Obj.mapSeq fun xs => xs.extract 0 a ++ new ++ xs.extract (min c old.size) xs.size) }) :
    wpAny (model prog w) A (setItem (.ref at_) (.ref sl) (.ref from_)) Q E s := by
  have l1 : s.heap.IsList at_ old := PySem.IsL.isList e1; have l2 : s.heap.IsList from_ new := PySem.IsL.isList e2
  obtain ⟨os, g1, g2, g3⟩ := id hs
  have ty : s.TypeIs (.ref sl) "slice" := ⟨os, g1, g2⟩
  have apart : Builtin.List.listSameRef (.ref at_) (.ref from_) = false := by unfold Builtin.List.listSameRef; exact beq_eq_false_iff_ne.mpr ne
  have top_ : (max (a : Int) ((min c old.size : Nat) : Int)).toNat = min c old.size := by omega
  have fits : ((fun xs : Array Value => xs.extract 0 a ++ new ++ xs.extract (min c old.size) xs.size) old).size ≤ sizeLine + 1 := by simp only [Array.size_append, Array.size_extract]; omega
  unfold setItem; (try with_reducible refine wpAny_holding ?_); (first | refine wpAny_bind (wpAny_pure ?_) | skip)
  refine wpAny_bind (wpAny_sequenceKey l1.typeIs (by decide) (wpAny_bind (wpAny_callSpecial?_slot (name := Str.ofString "__setitem__") l1.typeIs slot_list_setitem (wpAny_call_entry slot_list_setitem l1.typeIs entry_list_setitem ?_ (args_list_setitem _ _ _)))))
  show wpAny _ _ (Builtin.List.listSubscript? (.ref sl) >>= _) _ _ s; refine wpAny_bind ?_
  unfold Builtin.List.listSubscript?; refine wpAny_bind (wpAny_specialOf ty slice_no_index ?_); simp only [Option.isNone_none, if_true]; refine wpAny_pure ?_
  show wpAny _ _ (typeOf (.ref sl) >>= _) _ _ s; refine wpAny_bind (wpAny_typeOf ty ?_)
  (first | rw [if_neg (by decide)] | refine PySem.W.KFB.if_not (by decide) ?_); rw [listSliceParts_eq]
  refine wpAny_bind (wpAny_bind (wpAny_field g1 g3 (x := .none) rfl (wpAny_bind (wpAny_listPart .none ?_)))); rw [if_neg (show ¬ ((rawPart none == rawInt 0) = true) from Bool.false_ne_true)]
  refine wpAny_bind (wpAny_field g1 g3 (x := vl) rfl (wpAny_bind (wpAny_listPart pl (wpAny_bind (wpAny_field g1 g3 (x := vu) rfl (wpAny_bind (wpAny_listPart pu (wpAny_pure ?_))))))))
  (first | simp only [apart, Bool.false_eq_true, if_false] | refine PySem.W.KFB.if_not apart ?_); refine wpAny_bind (m := Builtin.List.listAllItems (.ref from_) "must assign iterable to extended slice") ?_
  unfold Builtin.List.listAllItems; refine wpAny_bind (wpAny_typeOf l2.typeIs ?_)
  (first | refine PySem.W.KFB.if_so (by decide) ?_ | rw [if_pos (by decide)]); unfold Builtin.List.listItems
  refine wpAny_bind (wpAny_seqItems e2 rfl (wpAny_pure (wpAny_bind (wpAny_bind (wpAny_seqItems e1 rfl (wpAny_pure ?_))))))
  refine wpAny_bind (wpAny_of_eq ((sliceIndices_raw (some (a : Int)) (some (c : Int)) none old.size (by simp)).trans (congrArg (pure : Int × Int × Int → Sem (Int × Int × Int)) (bounds_clip ha))) ?_)
  show wpAny _ _ (if ((1 : Int) == 1) = true then _ else _) _ _ s; rw [if_pos (by decide)]; refine wpAny_bind (wpAny_rule ?_)
  (first | simp only [notLongL room, Bool.false_eq_true, if_false] | refine PySem.W.KFB.if_not (notLongL room) ?_); (first | refine wpAny_bind (wpAny_pure ?_) | skip)
  show wpAny _ _ (updateSeq at_ (fun xs => xs.extract 0 ((a : Int)).toNat ++ new ++ xs.extract (max (a : Int) ((min c old.size : Nat) : Int)).toNat xs.size) >>= _) _ _ s
  rw [top_, Int.toNat_natCast]; refine wpAny_bind (wpAny_updateSeq (hz := Nat.le_trans (Nat.le_add_right _ _) room) (_hz' := fits) e1 rfl (wpAny_bind (wpAny_letGo ?_)))
  (first | exact wpAny_bind (wpAny_pure (wpAny_pure ⟨.none, rfl, wpAny_pure fin⟩)) | exact wpAny_pure ⟨.none, rfl, wpAny_pure fin⟩)
end
section
variable {X : Cx} {W : Wd} {pos : Pos}
def gSlc (to tl th : TE) : TG := fun v σ H Q => to σ H fun x H1 => tl σ H1 fun y H2 => th σ H2 fun z H3 => ∃ (a b : Addr) (xs ys : List V) (i j : Nat), x = .ref a ∧ v = .ref b ∧ a ≠ b ∧ H3 a = some (.lst xs) ∧ H3 b = some (.lst ys) ∧ y = .int (i : Int) ∧ z = .int (j : Int) ∧
  i ≤ j ∧ i ≤ xs.length ∧ xs.length + ys.length ≤ sizeLine ∧ Q σ (upd H3 a (.lst (xs.take i ++ ys ++ xs.drop j)))
theorem pg_slc {o lo hi : Expr} {to tl th : TE} {p p2 : Pos} (ho : PE X o to) (hl : PE X lo tl) (hh : PE X hi th) : PG X (.Subscript o (.Slice (some lo) (some hi) none p2) p) (gSlc to tl th) := by
  refine ⟨fun pins s σ H v u Q I r want => ?_⟩
  have ha : assign (.Subscript o (.Slice (some lo) (some hi) none p2) p) X.env u = (do
      let ov ← holding [u] (eval o X.env)
      let iv ← holding [u, ov] (eval (.Slice (some lo) (some hi) none p2) X.env)
      standAt p
      holding [u, ov, iv] (setItem ov iv u)
      release [iv, u, ov] []) := rfl
  rw [ha]
  refine wpAny_bind (wpAny_holding (thn (ho.run pins s σ H _ I want) fun ov s1 ⟨x, H1, I1, r1, q1⟩ => wpAny_bind (wpAny_holding (wpAny_Slice ?_))))
  rw [evalPart_some, evalPart_some, evalPart_none]
  refine thn (hl.run pins s1 σ H1 _ I1 q1) fun vl s2 ⟨y, H2, I2, r2, q2⟩ => ?_
  refine thn (hh.run pins s2 σ H2 _ I2 q2) fun vh s3 ⟨z, H3, I3, r3, a, b, xs, ys, i, j, e1, e2, hne, h1, h2, e3, e4, hij, hi, hz, q3⟩ => wpAny_pure ?_
  subst e1 e2 e3 e4
  cases r1
  cases r
  obtain ⟨t1, rfl⟩ := r2
  obtain ⟨t2, rfl⟩ := r3
  have I4 : Inv X pins σ H3 { s3 with heap := s3.heap.push { cls := .type "slice", data := .fields #[.int (i : Int) t1, .int (j : Int) t2, .none] } } := I3.kept (t' := s3.toks) fun b ob q => Heap.get?_push_of_some _ q
  obtain ⟨z1, its, n, rr, hl, e⟩ := I4.lstM h1
  obtain ⟨z2, its2, n2, rr2, hl2, e2⟩ := I4.lstM h2
  have hl' := rr.length
  have hl2' := rr2.length
  refine wpAny_bind (wpAny_standAt (wpAny_bind (wpAny_holding ?_))); refine setItem_clip (a := i) (c := j) e e2 hne (Heap.IsSliceOf.new ..) (.int _ _) (.int _ _) hij (by rw [List.size_toArray]; omega) (by rw [List.size_toArray, List.size_toArray]; omega) ?_
  refine wpAny_release ⟨σ, _, I4.lset (ys := xs.take i ++ ys ++ xs.drop j) (its' := its.take i ++ its2 ++ its.drop j) (t' := s3.toks) h1 e ?_ (Vals.append (Vals.append (rr.take _) rr2) (rr.drop _)) ?_, q3⟩
  · show its.toArray.extract 0 i ++ its2.toArray ++ its.toArray.extract (min j its.toArray.size) its.toArray.size = _
    rw [splice_eq its its2 i (min j its.toArray.size), List.size_toArray]
    congr 2
    by_cases hj : j ≤ its.length
    · rw [Nat.min_eq_left hj]
    · rw [Nat.min_eq_right (by omega), List.drop_length, List.drop_eq_nil_of_le (by omega)]
  · rw [List.length_append, List.length_append, List.length_take, List.length_drop]; omega
theorem t_slst {o lo hi e : Expr} {mo me ml mh : M} {p p2 : Pos} (he : PE X e (LE W me)) (ho : PE X o (LE W mo)) (hl : PE X lo (LE W ml)) (hh : PE X hi (LE W mh)) :
    PS X (.Assign [.Subscript o (.Slice (some lo) (some hi) none p2) p] e pos) (LSt W fun K ρ st => me ρ st fun d st1 => mo ρ st1 fun x st2 => ml ρ st2 fun y st3 => mh ρ st3 fun z st4 => ∃ a xs ys l h, x = .loc a ∧ st4 a = some (.lst xs) ∧ d = .lst ys ∧
      y = .int (Nat.cast l) ∧ z = .int (Nat.cast h) ∧ l ≤ h ∧ l ≤ xs.length ∧ xs.length + ys.length < sizeLine ∧ K.nx ρ (st4.set a (.lst (xs.take l ++ ys ++ xs.drop h)))) := by
  refine (ps_asg he (pg_slc ho hl hh) (by cases e <;> rfl) (by cases e <;> rfl)).mono fun D σ H ⟨B, ρ, st, K, r, h, q1, _⟩ => ?_
  refine ⟨B, ρ, st, _, r, h, fun d1 st1 v1 H1 h1 r1 o1 g1 => ⟨B, ρ, st1, _, r.step g1 o1, h1, fun d2 st2 v2 H2 h2 r2 o2 g2 => ⟨B, ρ, st2, _, r.step (g1.trans g2) o2, h2, fun d3 st3 v3 H3 h3 r3 o3 g3 => ⟨B, ρ, st3, _, r.step (g1.trans (g2.trans g3)) o3, h3, fun d4 st4 v4 H4 h4 r4 o4 g4 => ?_⟩⟩⟩⟩
  obtain ⟨a, xs, ys, l, hh, e1, e2, e3, e4, e5, k1, k2, k3, h5⟩ := h4
  subst e1 e3 e4 e5
  cases r2; cases r3; cases r4
  have r1' := r1.grow (g2.trans (g3.trans g4))
  cases r1' with
  | lst z f ll =>
    obtain ⟨us, w2, l2⟩ := o4.ob _ _ e2
    obtain ⟨o5, g5⟩ := setL o4 e2 (((l2.take l).app ll).app (l2.drop hh))
    have gg := g1.trans (g2.trans (g3.trans (g4.trans g5)))
    refine ⟨a, _, us, _, l, hh, rfl, rfl, fun e => ?_, w2, f, rfl, rfl, k1, by rw [l2.length]; exact k2, by rw [l2.length, ll.length]; omega, q1 _ _ _ _ h5 (r.step gg o5) gg⟩
    subst e
    rw [z.1] at e2; cases e2
end
end G
/-! The checker is right: statements. -/
namespace G
open PySem PySem.Spec PyProof.Rows L2 C8
/-! ### stores of pairs -/
theorem plAll (κ : Kx) : ∀ (es : Es) {sc : Scope} (l : List Expr), chEs κ sc es l = true → ∀ e ∈ l, plB e = true
  | .nil, sc, l, h => by
    unfold chEs at h; split at h <;> try cases h
    intro e he; cases he
  | .cons e es, sc, l, h => by
    unfold chEs at h; split at h <;> try cases h
    rename_i x xs
    simp only [Bool.and_eq_true] at h
    intro e he
    rcases List.mem_cons.mp he with rfl | he
    · exact h.1.1
    · exact plAll κ es xs h.2 e he
theorem bk_fn {env : PySem.Env} {sc : Scope} (e : env.scope = sc) (h : sc.kind = .function) : (env.blockKind != .function) = false := by
  unfold Env.blockKind
  rw [e, h]
  rfl
theorem here_of {sc : Scope} {x : Str} (h : hereB sc x = true) : sc.names.lookup x = some .local := by
  unfold hereB at h
  split at h
  · assumption
  · cases h
theorem sw2 {env : PySem.Env} {sc : Scope} {x y : Str} {px py pt p2 : Pos} {k k2 : Nat} {vs : List Expr} (es : env.scope = sc) (hk : sc.kind = .function) (hx : sc.names.lookup x = some .local) (hy : sc.names.lookup y = some .local) (hxy : x ≠ y) (hl : (py.line == px.line) = true)
    (hv : vs.length = 2) (hs : ∀ e ∈ vs, plB e = true) (hf : vs.all (foldedForSure 8) = false) (hc : vs.all (constantsAlone 8) = false) :
    swappedStores [.Tuple [.Name x px, .Name y py] k pt] (.Tuple vs k2 p2) env = pure (some [x, y]) := by
  have kx : env.kindOf x = some .local := by unfold Env.kindOf; rw [es]; exact hx
  have ky : env.kindOf y = some .local := by unfold Env.kindOf; rw [es]; exact hy
  have hb := bk_fn es hk
  have hl' : py.line = px.line := eq_of_beq hl
  unfold swappedStores
  simp only [List.length_cons, List.length_nil, hv, hb, hf, hc, List.head?_cons, Option.map_some, Option.getD_some, List.filterMap_cons, List.filterMap_nil, kx, ky]
  simp [Expr.pos, hl', hxy, Ne.symm hxy, List.eraseDups_cons, List.eraseDups_nil]
  intro e he hh
  have := hs e he
  cases e <;> first | (cases this; done) | (cases hh; done)
theorem sw3 {env : PySem.Env} {sc : Scope} {x y z : Str} {px py pz pt p2 : Pos} {k k2 : Nat} {vs : List Expr} (es : env.scope = sc) (hk : sc.kind = .function) (hx : sc.names.lookup x = some .local) (hy : sc.names.lookup y = some .local) (hz : sc.names.lookup z = some .local) (hxy : x ≠ y) (hxz : x ≠ z) (hyz : y ≠ z) (hl : (py.line == px.line) = true) (hl2 : (pz.line == px.line) = true)
    (hv : vs.length = 3) (hs : ∀ e ∈ vs, plB e = true) (hf : vs.all (foldedForSure 8) = false) (hc : vs.all (constantsAlone 8) = false) :
    swappedStores [.Tuple [.Name x px, .Name y py, .Name z pz] k pt] (.Tuple vs k2 p2) env = pure (some [x, y, z]) := by
  have kx : env.kindOf x = some .local := by unfold Env.kindOf; rw [es]; exact hx
  have ky : env.kindOf y = some .local := by unfold Env.kindOf; rw [es]; exact hy
  have kz : env.kindOf z = some .local := by unfold Env.kindOf; rw [es]; exact hz
  have hb := bk_fn es hk
  have hl' : py.line = px.line := eq_of_beq hl
  have hl2' : pz.line = px.line := eq_of_beq hl2
  unfold swappedStores
  simp only [List.length_cons, List.length_nil, hv, hb, hf, hc, List.head?_cons, Option.map_some, Option.getD_some, List.filterMap_cons, List.filterMap_nil, kx, ky, kz]
  simp [Expr.pos, hl', hl2', hxy, Ne.symm hxy, hxz, Ne.symm hxz, hyz, Ne.symm hyz, List.eraseDups_cons, List.eraseDups_nil]
  intro e he hh
  have := hs e he
  cases e <;> first | (cases this; done) | (cases hh; done)
theorem ord_of {env : PySem.Env} {sc : Scope} {ts : List Expr} {k : Nat} {pt : Pos} {v : Expr} (es : env.scope = sc) (h : ordB sc ts v = true) : swappedStores [.Tuple ts k pt] v env = pure none := by
  cases v <;> try rfl
  rename_i vs k2 p2
  unfold ordB at h
  simp only [Bool.or_eq_true] at h
  unfold swappedStores
  simp only
  split
  · rfl
  split
  · rfl
  split
  · rfl
  rename_i h1 h2 h3
  rcases h with (h | h) | h
  · exact (h1 (by rw [h]; rfl)).elim
  · rw [if_pos h]
  · exfalso
    apply h3
    rw [Bool.or_eq_true]
    left
    rw [bne_iff_ne]
    intro e
    rw [List.filterMap_length_eq_length] at e
    rw [Bool.not_eq_true'] at h
    rw [List.all_eq_false] at h
    obtain ⟨t, ht, hn⟩ := h
    apply hn
    have := e t ht
    cases t <;> try (cases this; done)
    rename_i y py
    unfold tyB
    have hkk : env.kindOf y = sc.names.lookup y := by unfold Env.kindOf; rw [es]
    dsimp only at this
    split at this
    · rename_i hh
      rw [Bool.and_eq_true] at hh ⊢
      refine ⟨?_, hh.2⟩
      rw [hkk] at hh
      rw [eq_of_beq hh.1]
    · cases this
end G
/-! The checker is right: statements. -/
namespace G
open PySem PySem.Spec PyProof.Rows L2 C8
section
variable {Γ : Ctx} {W : Wd} {κ : Kx} {sc : Scope} {X : Cx}
theorem Oks.loc (ok : Oks Γ W κ sc X) {x : Str} (h : locB sc x = true) : Loc X.env.scope x := by rw [ok.hsc]; exact loc_of h
theorem Oks.here (ok : Oks Γ W κ sc X) {x : Str} (h : hereB sc x = true) : X.env.scope.names.lookup x = some .local := by rw [ok.hsc]; exact here_of h
mutual
theorem soPt (ok : Oks Γ W κ sc X) : ∀ (p : Pt) (e : Expr), chPt κ sc p e = true → PG X e (LG W p)
  | .var i, e, h => by
    cases e <;> simp only [chPt, Bool.false_eq_true] at h
    rename_i x p
    rw [Bool.and_eq_true] at h
    exact g_var ok.ndX (ok.ix h.1) (ok.loc h.2) (.inl (ok.fnT x))
  | .tup ps, e, h => by
    cases e <;> simp only [chPt, Bool.false_eq_true] at h
    obtain ⟨g, hl, hn⟩ := soPts ok ps _ h
    exact g_tup ok.fx.K ok.fx.calm g (fun ds ρ P q => (asgs_len ps ds ρ P q).trans hl.symm) hn.1 hn.2
theorem soPts (ok : Oks Γ W κ sc X) : ∀ (p : Pts) (es : List Expr), chPts κ sc p es = true →
    PGs X es (LGs W p) ∧ es.length = p.len ∧ (assignEach es X.env).length = es.length ∧ (assignEach es X.env).findIdx? (·.1) = none
  | .nil, es, h => by
    cases es with
    | nil => exact ⟨g_nil, rfl, rfl, rfl⟩
    | cons _ _ => simp [chPts] at h
  | .cons p ps, es, h => by
    cases es with
    | nil => simp [chPts] at h
    | cons e es =>
      simp only [chPts, Bool.and_eq_true] at h
      obtain ⟨⟨h1, h2⟩, h3⟩ := h
      have g1 := soPt ok p e h2
      obtain ⟨g2, l2, n2, f2⟩ := soPts ok ps es h3
      have ea : assignEach (e :: es) X.env = (false, assign e X.env) :: assignEach es X.env := by
        cases e <;> first | rfl | cases h1
      refine ⟨g_cons g1 g2 (by rw [ea]; rfl), by simp [Pts.len, l2], by rw [ea]; simp [n2], ?_⟩
      rw [ea, List.findIdx?_cons]
      simp [f2]
end
theorem sw_no (ok : Oks Γ W κ sc X) {x : Str} {px : Pos} {e : Expr} {n : Nat} (hd : okC e = true) (h : swapB sc x px e = false) : swapsWith e (some (.Name x px)) n X.env = pure false := by
  cases e <;> first | rfl | (cases hd; done) | skip
  · rename_i a b s p
    have hb : (X.env.blockKind == .function) = true := by
      have := bk_fn (env := X.env) ok.hsc ok.kind
      rw [bne, Bool.not_eq_false'] at this
      exact this
    unfold swapB at h
    have hk : (X.env.kindOf x == some .local) = (match sc.names.lookup x with | some .local => true | _ => false) := by
      unfold Env.kindOf
      rw [ok.hsc]
      cases sc.names.lookup x with
      | none => rfl
      | some k => cases k <;> rfl
    show (pure (X.env.blockKind == .function && X.env.kindOf x == some .local && px.line == p.line && !(s.names.any fun (n, k) => n == x && (k == .local || k == .cell))) : Sem Bool) = pure false
    rw [hb, hk, Bool.true_and]
    exact congrArg _ h
theorem sw_yes (ok : Oks Γ W κ sc X) {x : Str} {px : Pos} {a : Expr} {b : List Comprehension} {s : Scope} {p : Pos} {n : Nat} (h : swapB sc x px (.ListComp a b s p) = true) : swapsWith (.ListComp a b s p) (some (.Name x px)) n X.env = pure true ∧ hereB sc x = true := by
  have hb : (X.env.blockKind == .function) = true := by
    have := bk_fn (env := X.env) ok.hsc ok.kind
    rw [bne, Bool.not_eq_false'] at this
    exact this
  unfold swapB at h
  have hk : (X.env.kindOf x == some .local) = (match sc.names.lookup x with | some .local => true | _ => false) := by
    unfold Env.kindOf
    rw [ok.hsc]
    cases sc.names.lookup x with
    | none => rfl
    | some k => cases k <;> rfl
  refine ⟨?_, ?_⟩
  · show (pure (X.env.blockKind == .function && X.env.kindOf x == some .local && px.line == p.line && !(s.names.any fun (n, k) => n == x && (k == .local || k == .cell))) : Sem Bool) = pure true
    rw [hb, hk, Bool.true_and]
    exact congrArg _ h
  · simp only [Bool.and_eq_true] at h
    exact h.1.1
/-- a checked producer that is a list comprehension -/
theorem cmp_set (ok : Oks Γ W κ sc X) {q : P} {e : Expr} {i : Nat} {x : Str} {px pos : Pos} (h : chP κ sc q e = true) (hc : cmpB q = true) (hi : nmB κ i x = true) (hs : swapB sc x px e = true) :
    PS X (.Assign [.Name x px] e pos) (fun D σ H => LP W (denP Γ X0 q) σ H fun v H1 => gName i v σ H1 D.nx) := by
  cases q <;> try cases hc
  · rename_i own p it elt
    unfold chP at h; split at h <;> try cases h
    rename_i el tg iter scope cpos
    simp only [Bool.and_eq_true, decide_eq_true_eq] at h
    obtain ⟨⟨⟨⟨⟨h1, h2⟩, h3⟩, h4⟩, h5⟩, h6⟩ := h
    obtain ⟨s1, s2⟩ := sw_yes ok (n := pos.line) hs
    refine PS.mono (ps_setLc ok.fx.calm ok.ndX (ok.ix hi) (ok.here s2) s1 (soI it ok.toOkk tg iter h5) (own := ownN κ.N own) (by rw [ok.hN, ok.hsc]; exact blkOk_by h1) (g := LG W p) (fun s H C cl fp => soPtB ok.toOkk s H scope C cl fp p tg h2)
      (tt := LT W _) (te := LE W _) (fun s H C cl fp => ts_nil) (fun s H C cl fp => soE elt (ok.toOkk.blk s H scope C cl fp) el h6) (fold_no h4)) fun D σ H hq => ?_
    refine comp_lift (own := (ownN κ.N own).map (·.2)) (by rw [ownN_snd]; exact h3) σ H _ ?_
    have e : denP Γ X0 (.comp own p it elt) = fun ρ st Q => denI Γ X0 it ρ st fun ds C st1 => turns C (turn p ((ownN κ.N own).map (·.2)) (fun _ st Q => Q (.bl true) st) (den Γ X0 elt) ρ) ds st1 [] fun xs st2 => Q (.lst xs) st2 := by
      funext ρ st Q
      rw [denP, ownN_snd]
      congr 1
      funext ds C st1
      congr 1
      funext d st k
      unfold turn
      congr 1
      funext ρ1
      simp
    rw [← e]
    exact hq
  · rename_i own p it c elt
    unfold chP at h; split at h <;> try cases h
    rename_i el tg iter t scope cpos
    simp only [Bool.and_eq_true, decide_eq_true_eq] at h
    obtain ⟨⟨⟨⟨⟨⟨h1, h2⟩, h3⟩, h4⟩, h5⟩, h7⟩, h6⟩ := h
    obtain ⟨s1, s2⟩ := sw_yes ok (n := pos.line) hs
    refine PS.mono (ps_setLc ok.fx.calm ok.ndX (ok.ix hi) (ok.here s2) s1 (soI it ok.toOkk tg iter h5) (own := ownN κ.N own) (by rw [ok.hN, ok.hsc]; exact blkOk_by h1) (g := LG W p) (fun s H C cl fp => soPtB ok.toOkk s H scope C cl fp p tg h2)
      (tt := LT W _) (te := LE W _) (fun s H C cl fp => ts_one (soT c (ok.toOkk.blk s H scope C cl fp) t h7)) (fun s H C cl fp => soE elt (ok.toOkk.blk s H scope C cl fp) el h6) (fold_no h4)) fun D σ H hq => ?_
    refine comp_lift (own := (ownN κ.N own).map (·.2)) (by rw [ownN_snd]; exact h3) σ H _ ?_
    have e : denP Γ X0 (.compif own p it c elt) = fun ρ st Q => denI Γ X0 it ρ st fun ds C st1 => turns C (turn p ((ownN κ.N own).map (·.2)) (den Γ X0 c) (den Γ X0 elt) ρ) ds st1 [] fun xs st2 => Q (.lst xs) st2 := by
      funext ρ st Q
      rw [denP, ownN_snd]
      rfl
    rw [← e]
    exact hq
  · rename_i own p it c own1 p1 it1 c1 elt
    unfold chP at h; split at h <;> try cases h
    rename_i el tg iter ifs tg1 iter1 ifs1 scope cpos
    simp only [Bool.and_eq_true, decide_eq_true_eq] at h
    obtain ⟨⟨⟨⟨⟨⟨⟨⟨⟨⟨⟨⟨h1, h2⟩, h3⟩, h4⟩, h5⟩, h6⟩, h7⟩, h8⟩, h9⟩, h10⟩, h11⟩, h12⟩, h13⟩ := h
    obtain ⟨s1, s2⟩ := sw_yes ok (n := pos.line) hs
    have t0 : ∀ s H C cl fp, PTs (X.blk s H scope (compEnvC scope cl C X.env) fp) ifs (LT W (den Γ X0 c)) := by
      intro s H C cl fp
      split at h6
      · split at h6
        · subst h6
          exact PTs.to ts_nil (by funext ρ st Q; rw [den])
        · cases h6
      · exact ts_one (soT c (ok.toOkk.blk s H scope C cl fp) _ h6)
      · cases h6
    have t1 : ∀ s H C cl fp, PTs (X.blk s H scope (compEnvC scope cl C X.env) fp) ifs1 (LT W (den Γ X0 c1)) := by
      intro s H C cl fp
      split at h12
      · split at h12
        · subst h12
          exact PTs.to ts_nil (by funext ρ st Q; rw [den])
        · cases h12
      · exact ts_one (soT c1 (ok.toOkk.blk s H scope C cl fp) _ h12)
      · cases h12
    refine PS.mono (ps_setLc2 (vs1 := own1) ok.fx.calm ok.ndX (ok.ix hi) (ok.here s2) s1 (soI it ok.toOkk tg iter h5) (own := ownN κ.N own) (by rw [ok.hN, ok.hsc]; exact blkOk_by h1) (by rw [ownN_snd]; exact h7) (g := LG W p) (fun s H C cl fp => soPtB ok.toOkk s H scope C cl fp p tg h2)
      (tt := LT W _) t0 (fun s H C cl fp => soI it1 (ok.toOkk.blk s H scope C cl fp) tg1 iter1 h11) (g1 := LG W p1) (fun s H C cl fp => soPtB ok.toOkk s H scope C cl fp p1 tg1 h8) (tt1 := LT W _) t1 (te := LE W _) (fun s H C cl fp => soE elt (ok.toOkk.blk s H scope C cl fp) el h13) (fold_no h4) (fun env => fold_no h10)) fun D σ H hq => ?_
    refine comp2_lift (own := (ownN κ.N own).map (·.2)) (by rw [ownN_snd]; exact h3) h9 σ H _ ?_
    have e : denP Γ X0 (.comp2 own p it c own1 p1 it1 c1 elt) = fun ρ st Q => denI Γ X0 it ρ st fun ds C st1 => turnsA C (turn1 p ((ownN κ.N own).map (·.2)) (den Γ X0 c) (denI Γ X0 it1) p1 own1 (den Γ X0 c1) (den Γ X0 elt) ρ) ds st1 ([] : List G.D) fun xs st2 => Q (.lst xs) st2 := by
      funext ρ st Q
      rw [denP, ownN_snd]
      rfl
    rw [← e]
    exact hq
theorem t_par2 {x y : Str} {a b : Expr} {px py pt pos : Pos} {kt k2 : Nat} {pt2 : Pos} {i j : Nat} {ms : MA} (hc : X.calm = true) (hN : X.N.Nodup) (hi : X.N[i]? = some x) (hj : X.N[j]? = some y) (hij : i ≠ j)
    (hx : X.env.scope.names.lookup x = some .local) (hy : X.env.scope.names.lookup y = some .local) (ha : PA X [a, b] (LA W ms))
    (hw : swappedStores [.Tuple [.Name x px, .Name y py] kt pt] (.Tuple [a, b] k2 pt2) X.env = pure (some [x, y])) :
    PS X (.Assign [.Tuple [.Name x px, .Name y py] kt pt] (.Tuple [a, b] k2 pt2) pos) (LSt W fun K ρ st => ms ρ st fun ds st1 => ds.length = 2 ∧ K.nx (setAll [i, j] ds ρ) st1) := by
  refine (ps_par hc hN hi hj hij hx hy ha hw).mono fun D σ H ⟨B, ρ, st, K, r, h, q1, _⟩ => ?_
  refine ⟨B, ρ, st, _, r, h, fun ds st1 vs H1 ⟨hl, h1⟩ r1 o1 g1 => ?_⟩
  obtain ⟨d1, d2, rfl⟩ : ∃ d1 d2, ds = [d1, d2] := by
    rcases ds with _ | ⟨d1, _ | ⟨d2, _ | ⟨d3, r⟩⟩⟩ <;> simp at hl
    exact ⟨d1, d2, rfl⟩
  cases r1 with
  | cons a1 t1 =>
    cases t1 with
    | cons a2 t2 =>
      cases t2
      exact ⟨_, _, rfl, q1 _ _ _ _ h1 (((r.step g1 o1).set i a1).set j a2) g1⟩
theorem t_par3 {x y z : Str} {a b c : Expr} {px py pz pt pos : Pos} {kt k2 : Nat} {pt2 : Pos} {i j l : Nat} {ms : MA} (hc : X.calm = true) (hN : X.N.Nodup) (hi : X.N[i]? = some x) (hj : X.N[j]? = some y) (hl : X.N[l]? = some z) (hij : i ≠ j) (hil : i ≠ l) (hjl : j ≠ l)
    (hx : X.env.scope.names.lookup x = some .local) (hy : X.env.scope.names.lookup y = some .local) (hz : X.env.scope.names.lookup z = some .local) (ha : PA X [a, b, c] (LA W ms))
    (hw : swappedStores [.Tuple [.Name x px, .Name y py, .Name z pz] kt pt] (.Tuple [a, b, c] k2 pt2) X.env = pure (some [x, y, z])) :
    PS X (.Assign [.Tuple [.Name x px, .Name y py, .Name z pz] kt pt] (.Tuple [a, b, c] k2 pt2) pos) (LSt W fun K ρ st => ms ρ st fun ds st1 => ds.length = 3 ∧ K.nx (setAll [i, j, l] ds ρ) st1) := by
  refine (ps_par3 hc hN hi hj hl hij hil hjl hx hy hz ha hw).mono fun D σ H ⟨B, ρ, st, K, r, h, q1, _⟩ => ?_
  refine ⟨B, ρ, st, _, r, h, fun ds st1 vs H1 ⟨hl, h1⟩ r1 o1 g1 => ?_⟩
  obtain ⟨d1, d2, d3, rfl⟩ : ∃ d1 d2 d3, ds = [d1, d2, d3] := by
    rcases ds with _ | ⟨d1, _ | ⟨d2, _ | ⟨d3, _ | ⟨d4, r⟩⟩⟩⟩ <;> simp at hl
    exact ⟨d1, d2, d3, rfl⟩
  cases r1 with
  | cons a1 t1 =>
    cases t1 with
    | cons a2 t2 =>
      cases t2 with
      | cons a3 t3 =>
        cases t3
        exact ⟨_, _, _, rfl, q1 _ _ _ _ h1 ((((r.step g1 o1).set i a1).set j a2).set l a3) g1⟩
theorem doc_ok {s : Stmt} (h : docB s = true) : PS X s (LSt W fun K ρ st => K.nx ρ st) := by
  unfold docB at h
  split at h <;> try cases h
  · exact ps_doc.mono nx_lift
  · exact ps_pass.mono nx_lift
mutual
theorem soS (ok : Oks Γ W κ sc X) : ∀ (ir : S) (s : Stmt), chS κ sc ir s = true → PS X s (LSt W (denS Γ X0 ir))
  | .exp a, s, h => by
    unfold chS at h; split at h <;> try cases h
    rename_i e pos
    simp only [Bool.and_eq_true, Bool.not_eq_true'] at h
    exact PS.to (t_exp (soE a ok.toOkk _ h.2) (by cases e <;> first | rfl | cases h.1)) (by funext K ρ st; rw [denS])
  | .asg p a, s, h => by
    unfold chS at h; split at h <;> try cases h
    · rename_i x px e pos
      rw [Bool.and_eq_true] at h
      obtain ⟨h1, h2⟩ := h
      split at h1 <;> try cases h1
      rename_i i
      rw [Bool.and_eq_true] at h1
      split at h2
      · rename_i hsw
        split at h2 <;> try cases h2
        · rename_i q
          rw [Bool.and_eq_true] at h2
          refine PS.mono (cmp_set ok h2.1 h2.2 h1.1 hsw) fun D σ H hq => ?_
          refine fr_lift σ H _ ?_
          have hq := t_set D σ H (show LSt W (fun K ρ st => den Γ X0 (.fr q) ρ st fun d st1 => K.nx (ρ.set i (some d)) st1) D σ H from by
            have e : denS Γ X0 (.asg (.var i) (.fr q)) = (fun K ρ st => den Γ X0 (.fr q) ρ st fun d st1 => K.nx (ρ.set i (some d)) st1) := by funext K ρ st; rw [denS]; rfl
            rw [← e]; exact hq)
          have e : den Γ X0 (.fr q) = (fun ρ st Q => denP Γ X0 q ρ st fun o st1 => match o with
              | .lst ds => Q (.lst ds) st1
              | .dct kvs _ => Q (.dct kvs) st1
              | _ => False) := by funext ρ st Q; rw [den] <;> (refine congrArg _ ?_; funext o st1; cases o <;> rfl)
          rw [e] at hq
          exact hq
        · rename_i q
          rw [Bool.and_eq_true] at h2
          refine PS.mono (cmp_set ok h2.1 h2.2 h1.1 hsw) fun D σ H hq => ?_
          refine bx_lift σ H _ ?_
          have hq := t_set D σ H (show LSt W (fun K ρ st => den Γ X0 (.bx q) ρ st fun d st1 => K.nx (ρ.set i (some d)) st1) D σ H from by
            have e : denS Γ X0 (.asg (.var i) (.bx q)) = (fun K ρ st => den Γ X0 (.bx q) ρ st fun d st1 => K.nx (ρ.set i (some d)) st1) := by funext K ρ st; rw [denS]; rfl
            rw [← e]; exact hq)
          have e : den Γ X0 (.bx q) = (fun ρ st Q => denP Γ X0 q ρ st fun o st1 => ∀ a, st1 a = none → Q (.loc a) (st1.set a o)) := by funext ρ st Q; rw [den]
          rw [e] at hq
          exact hq
      · rename_i hsw
        rw [Bool.and_eq_true] at h2
        have hsw : swapB sc x px e = false := by cases q : swapB sc x px e <;> simp_all
        exact PS.to ((ps_set ok.ndX (ok.ix h1.1) (ok.loc h1.2) (soE a ok.toOkk _ h2.2) (sw_no ok h2.1 hsw) (.inl (ok.fnT x))).mono t_set) (by funext K ρ st; rw [denS]; rfl)
    · rename_i ts k tp e pos
      simp only [Bool.and_eq_true] at h
      exact PS.to ((ps_asg (soE a ok.toOkk _ h.2) (soPt ok p _ h.1.1) (by cases e <;> rfl) (ord_of ok.hsc h.1.2)).mono t_asg) (by funext K ρ st; rw [denS])
  | .par is as, s, h => by
    unfold chS at h; split at h <;> try cases h
    · rename_i x px y py k1 p1 vs k2 p2 pos
      simp only [Bool.and_eq_true, decide_eq_true_eq, Bool.not_eq_true'] at h
      obtain ⟨⟨⟨⟨⟨⟨⟨⟨h1, h2⟩, h3⟩, h4⟩, h5⟩, h6⟩, h7⟩, h8⟩, h9⟩ := h
      split at h1 <;> try cases h1
      rename_i i j
      simp only [Bool.and_eq_true, decide_eq_true_eq] at h1
      obtain ⟨⟨a1, a2⟩, a3⟩ := h1
      have hw := sw2 (k := k1) (pt := p1) (k2 := k2) (p2 := p2) ok.hsc ok.kind (here_of h2) (here_of h3) h4 h5 h6 (plAll κ as vs h9) h7 h8
      obtain ⟨v1, v2, rfl⟩ : ∃ d1 d2, vs = [d1, d2] := by
        rcases vs with _ | ⟨d1, _ | ⟨d2, _ | ⟨d3, r⟩⟩⟩ <;> simp at h6
        exact ⟨d1, d2, rfl⟩
      exact PS.to (t_par2 ok.fx.calm ok.ndX (ok.ix a1) (ok.ix a2) a3 (ok.here h2) (ok.here h3) (soEs as ok.toOkk _ h9) hw) (by funext K ρ st; rw [denS]; rfl)
    · rename_i x px y py z pz k1 p1 vs k2 p2 pos
      simp only [Bool.and_eq_true, decide_eq_true_eq, Bool.not_eq_true'] at h
      obtain ⟨⟨⟨⟨⟨⟨⟨⟨⟨⟨⟨⟨h1, h2⟩, h3⟩, h3'⟩, h4⟩, h4'⟩, h4''⟩, h5⟩, h5'⟩, h6⟩, h7⟩, h8⟩, h9⟩ := h
      split at h1 <;> try cases h1
      rename_i i j l
      simp only [Bool.and_eq_true, decide_eq_true_eq] at h1
      obtain ⟨⟨⟨⟨⟨a1, a2⟩, a3⟩, a4⟩, a5⟩, a6⟩ := h1
      have hw := sw3 (k := k1) (pt := p1) (k2 := k2) (p2 := p2) ok.hsc ok.kind (here_of h2) (here_of h3) (here_of h3') h4 h4' h4'' h5 h5' h6 (plAll κ as vs h9) h7 h8
      obtain ⟨v1, v2, v3, rfl⟩ : ∃ d1 d2 d3, vs = [d1, d2, d3] := by
        rcases vs with _ | ⟨d1, _ | ⟨d2, _ | ⟨d3, _ | ⟨d4, r⟩⟩⟩⟩ <;> simp at h6
        exact ⟨d1, d2, d3, rfl⟩
      exact PS.to (t_par3 ok.fx.calm ok.ndX (ok.ix a1) (ok.ix a2) (ok.ix a3) a4 a5 a6 (ok.here h2) (ok.here h3) (ok.here h3') (soEs as ok.toOkk _ h9) hw) (by funext K ρ st; rw [denS]; rfl)
  | .sto o i a, s, h => by
    unfold chS at h; split at h <;> try cases h
    simp only [Bool.and_eq_true] at h
    exact PS.to (t_sto ok.fx.K ok.fx.w ok.hu (soE a ok.toOkk _ h.1.1.2) (soE o ok.toOkk _ h.1.2) (soE i ok.toOkk _ h.2) h.1.1.1) (by funext K ρ st; rw [denS])
  | .slst o lo hi a, s, h => by
    unfold chS at h; split at h <;> try cases h
    simp only [Bool.and_eq_true] at h
    exact PS.to (t_slst (soE a ok.toOkk _ h.1.1.1) (soE o ok.toOkk _ h.1.1.2) (soE lo ok.toOkk _ h.1.2) (soE hi ok.toOkk _ h.2)) (by funext K ρ st; rw [denS])
  | .fld o f a, s, h => by
    unfold chS at h; split at h <;> try cases h
    simp only [Bool.and_eq_true, decide_eq_true_eq] at h
    obtain ⟨⟨rfl, h2⟩, h3⟩ := h
    exact PS.to (t_fld (cf := Γ.cf) (fun c C a b => ok.fx.cf c f C a b) (soE a ok.toOkk _ h2) (soE o ok.toOkk _ h3)) (by funext K ρ st; rw [denS])
  | .aug i op a, s, h => by
    unfold chS at h; split at h <;> try cases h
    rename_i x p op' e pos
    simp only [Bool.and_eq_true, decide_eq_true_eq] at h
    obtain ⟨⟨⟨⟨rfl, h2⟩, h3⟩, h4⟩, h5⟩ := h
    refine PS.to (t_aug ok.ndX (ok.ix h3) (ok.loc h4) (ok.fnT x) (soE a ok.toOkk _ h5) (by cases op <;> simp at h2 ⊢)) ?_
    funext K ρ st
    rw [denS] <;> (rcases ρ[i]? with _ | _ | _ <;> rfl)
  | .augs o i op a, s, h => by
    unfold chS at h; split at h <;> try cases h
    simp only [Bool.and_eq_true, decide_eq_true_eq] at h
    obtain ⟨⟨⟨⟨⟨rfl, h2⟩, h3⟩, h4⟩, h5⟩, h6⟩ := h
    exact PS.to (t_augs ok.fx.K ok.fx.w ok.hu (soE o ok.toOkk _ h4) (soE i ok.toOkk _ h5) (soE a ok.toOkk _ h6) h3 (by cases op <;> simp at h2 ⊢)) (by funext K ρ st; rw [denS])
  | .ret a, s, h => by
    unfold chS at h; split at h <;> try cases h
    exact PS.to (t_ret (soE a ok.toOkk _ h)) (by funext K ρ st; rw [denS])
  | .retN, s, h => by
    unfold chS at h; split at h <;> try cases h
    exact PS.to t_retN (by funext K ρ st; rw [denS])
  | .ife c a b, s, h => by
    unfold chS at h; split at h <;> try cases h
    simp only [Bool.and_eq_true] at h
    exact PS.to (t_if (soT c ok.toOkk _ h.1.1) (soSs ok a _ h.1.2) (soSs ok b _ h.2)) (by funext K ρ st; rw [denS])
  | .for p it b, s, h => by
    unfold chS at h; split at h <;> try cases h
    simp only [Bool.and_eq_true] at h
    exact PS.to (t_for ok.pas ok.fx.calm (soI it ok.toOkk _ _ h.1.1.2) (soPt ok p _ h.1.1.1) (mb := fun ρ st K => denSs Γ X0 b K ρ st) (soSs ok b _ h.2) (fold_no h.1.2)) (by funext K ρ st; rw [denS])
  | .whl c b, s, h => by
    unfold chS at h; split at h <;> try cases h
    simp only [Bool.and_eq_true] at h
    exact PS.to (t_while ok.pas (soT c ok.toOkk _ h.1) (mb := fun ρ st K => denSs Γ X0 b K ρ st) (soSs ok b _ h.2)) (by funext K ρ st; rw [denS])
  | .brk, s, h => by
    unfold chS at h; split at h <;> try cases h
    exact PS.to t_brk (by funext K ρ st; rw [denS])
  | .cnt, s, h => by
    unfold chS at h; split at h <;> try cases h
    exact PS.to t_cnt (by funext K ρ st; rw [denS])
  | .pass, s, h => by
    unfold chS at h
    exact PS.to (doc_ok h) (by funext K ρ st; rw [denS])
  | .never, s, h => PS.to t_never (by funext K ρ st; rw [denS])
  | .gfz _, s, h => by unfold chS at h; cases h
  | .gff _ _, s, h => by unfold chS at h; cases h
theorem soSs (ok : Oks Γ W κ sc X) : ∀ (ir : Ss) (s : List Stmt), chSs κ sc ir s = true → PSs X s (LSt W (denSs Γ X0 ir))
  | .nil, l, h => by
    unfold chSs at h; split at h <;> try cases h
    exact PSs.to t_nil (by funext K ρ st; rw [denSs])
  | .cons s ss, l, h => by
    unfold chSs at h
    split at h
    · rename_i i
      refine PSs.to (t_gfz (i := i) (soSs ok ss l h)) ?_
      funext K ρ st
      rw [denSs, denS] <;> (rcases ρ[i]? with _ | _ | _ <;> rfl)
    · rename_i i f
      refine PSs.to (t_gff (i := i) (f := f) (soSs ok ss l h)) ?_
      funext K ρ st
      rw [denSs, denS]
    · split at h <;> try cases h
      rw [Bool.and_eq_true] at h
      exact PSs.to (t_cons (soS ok s _ h.1) (soSs ok ss _ h.2)) (by funext K ρ st; rw [denSs])
end
end
end G
/-! A def by its small text. -/
namespace G
open PySem PySem.Spec PyProof.Rows L2
open C8 (Cal Met Mak)
def startE (n : Nat) (ds : List D) : Env := ds.map some ++ List.replicate (n - ds.length) none
theorem start_rep {W : Wd} {B : Addr → Prop} {st : Store} {H : Hp} {N : List Str} {vs : List V} {ds : List D} (o : RH W B st H) (l : RepL W B st H vs ds) : R W B (startE N.length ds) st (L2.start N vs) H := by
  refine ⟨?_, fun i d e => ?_, o⟩
  · unfold startE L2.start
    rw [List.length_append, List.length_append, List.length_map, List.length_map, List.length_replicate, List.length_replicate, l.length]
  · unfold startE at e
    unfold L2.start
    by_cases hi : i < ds.length
    · rw [List.getElem?_append_left (by simpa using hi)] at e
      simp only [List.getElem?_map, Option.map_eq_some_iff] at e
      obtain ⟨d', h1, h2⟩ := e
      cases h2
      obtain ⟨v, h3, h4⟩ := l.get i d h1
      refine ⟨v, ?_, h4⟩
      rw [List.getElem?_append_left (by rw [List.length_map, l.length]; exact hi), List.getElem?_map, h3]
      rfl
    · rw [List.getElem?_append_right (by simpa using Nat.le_of_not_lt hi)] at e
      have := List.mem_of_getElem? e
      have := List.eq_of_mem_replicate this
      cases this
/-- what is known of the program behind its top -/
structure Gx (Γ : Ctx) (W : Wd) (P : Program) (mg : Str → Option Value) (base : Heap) (k : Nat) : Prop where
  bn : ∀ x ∈ bnames, mg x = none
  gl : ∀ x d, Γ.gl x = some d → ∃ v u, mg x = some u ∧ RelV v u ∧ ∀ B st H, Rep W B st H v d
  fn : ∀ f sp, Γ.fn f = some sp → ∃ j, j ≤ k ∧ Cal P W.w W.K mg base j f (LS W sp) []
  cf : ∀ c f C, Γ.cf c f = true → W.cls c = some C → Cls W.K C ∧ NoAttr W.K C f
  me : ∀ c m sp, Γ.me c m = some sp → m ≠ "__init__" → ∃ C j, j ≤ k ∧ W.cls c = some C ∧ Met P W.w W.K mg base j C m (LS W sp) []
  nw : ∀ c sp, Γ.me c "__init__" = some sp → ∃ C j, j + 1 ≤ k ∧ W.cls c = some C ∧ Mak P W.w W.K mg base j c C (LS W sp) []
theorem Gx.fx {Γ : Ctx} {W : Wd} {P : Program} {mg : Str → Option Value} {base : Heap} {k : Nat} (G : Gx Γ W P mg base k) {N : List Str} {qual : Str} {scope : Scope} {f : Addr} {cd : Value} {A : Around} {outer : List PySem.Env} {s : Shared} {H : Hp} {E : XK}
    (hr : Room k (A.deeper (envOfC qual scope s.heap.objs.size f cd))) : Fx Γ W (cxOf L2.CX0 P W.w W.K mg base N qual scope f cd A outer s H E).nox where
  K := rfl
  w := rfl
  calm := rfl
  room := by have := hr.un; show (A.deeper (envOfC qual scope s.heap.objs.size f cd)).units + 100 < cLine; omega
  bn := G.bn
  gl := G.gl
  fn := fun f sp e => let ⟨j, h1, h2⟩ := G.fn f sp e; ⟨j, h2, hr.mono h1⟩
  cf := G.cf
  me := fun c m sp e h => let ⟨C, j, h1, h2, h3⟩ := G.me c m sp e h; ⟨C, j, h2, h3, hr.mono h1⟩
  nw := fun c sp e => let ⟨C, j, h1, h2, h3⟩ := G.nw c sp e; ⟨C, j, h2, h3, hr.mono h1⟩
/-- a spec by a body -/
def Does (Γ : Ctx) (n m : Nat) (body : Ss) (sp : Spec) : Prop := ∀ ds st P, sp ds st P X0 → ds.length = m ∧ denSs Γ X0 body { nx := fun _ st => P .non st, rt := P } (startE n ds) st
theorem fn_ok {Γ : Ctx} {W : Wd} {P : Program} {mg : Str → Option Value} {base : Heap} {k : Nat} {x qual : Str} {s : Stmt} {f : Addr} {fd : FuncData} {κ : Kx} {ps : List Str} {body : Ss} {sp : Spec} (G : Gx Γ W P mg base k) (F : L2.Fun W.K x qual s f fd) (S : FnScope κ.N ps (defScope s))
    (hf : ∀ f ∈ κ.fns, ∃ sp, Γ.fn f = some sp) (hm : ∀ c m, (c, m) ∈ κ.mes → ∃ sp, Γ.me c m = some sp) (hch : chSs κ (defScope s) body (defBody s) = true) (law : Does Γ κ.N.length ps.length body sp) :
    FnOk P W.w W.K mg base L2.CX0 (k + 1) f fd ps (LS W sp) := by
  refine F.ok S (fun vs H Q E ⟨B, st, ds, P', o, l, h, q⟩ => ?_) (fun cdv A outer s' H vs Q E hr ⟨B, st, ds, P', o, l, h, q⟩ => ?_)
  · rw [l.length]; exact (law _ _ _ h).1
  · have ok : Oks Γ W κ (defScope s) (cxOf L2.CX0 P W.w W.K mg base κ.N qual (defScope s) f cdv A outer s' H E).nox :=
      { hN := rfl, hsc := rfl, nd := S.nd, fns := hf, mes := hm, fx := G.fx hr, kind := S.kind, pas := PassesOwn.never, fnT := fun _ => rfl }
    refine ⟨_, soSs ok body _ hch, B, _, st, _, start_rep o l, (law _ _ _ h).2, fun ρ' st' σ' H' z r g => q _ _ _ _ z .non r.ob g, fun d st' v H' z r o g => q _ _ _ _ z r o g, fun _ _ _ _ z => z.elim, fun _ _ _ _ z => z.elim⟩
theorem cal_ok {W : Wd} {P : Program} {mg : Str → Option Value} {base : Heap} {k : Nat} {x qual : Str} {s : Stmt} {f : Addr} {fd : FuncData} {ps : List Str} {sp : Spec} (F : L2.Fun W.K x qual s f fd) (b : Binds W.K fd ps []) (m : mg x = some (.ref f)) (h : FnOk P W.w W.K mg base L2.CX0 k f fd ps (LS W sp)) :
    Cal P W.w W.K mg base k x (LS W sp) [] := ⟨f, fd, ps, [], h, m, F.kp, b, .nil⟩
end G
/-! Readings: loops by invariants; specs. -/
namespace G
open PySem PySem.Spec PyProof.Rows L2
/-! ### comprehensions -/
theorem turns_inv {C : Store → Prop} {f : D → Store → (Option D → Store → Prop) → Prop} {Q : List D → Store → Prop} (J : Nat → List D → Store → Prop) : ∀ (ds : List D) (i : Nat) (st : Store) (acc : List D), acc.length ≤ i → i + ds.length ≤ sizeLine → J i acc st →
    (∀ j d st acc (k : Option D → Store → Prop), ds[j]? = some d → J (i + j) acc st → (∀ x st', J (i + j + 1) (acc ++ [x]) st' → k (some x) st') → (∀ st', J (i + j + 1) acc st' → k none st') → f d st k) →
    (∀ acc st, J (i + ds.length) acc st → Q acc st) → (hC : ∀ i acc st, J i acc st → C st := by intros; trivial) → turns C f ds st acc Q
  | [], i, st, acc, hl, hs, h, step, hd, hC => ⟨hC _ _ _ h, hd acc st (by simpa using h)⟩
  | d :: ds, i, st, acc, hl, hs, h, step, hd, hC => by
    simp only [List.length_cons] at hs hd
    unfold turns
    have go : ∀ acc' st', acc'.length ≤ i + 1 → J (i + 1) acc' st' → turns C f ds st' acc' Q := fun acc' st' hl' h' =>
      turns_inv J ds (i + 1) st' acc' hl' (by omega) h' (fun j e st acc k hj hJ h1 h2 => step (j + 1) e st acc k (by simpa using hj) (by rw [show i + (j + 1) = i + 1 + j by omega]; exact hJ)
        (fun x st' z => h1 x st' (by rw [show i + 1 + j + 1 = i + (j + 1) + 1 by omega]; exact z)) (fun st' z => h2 st' (by rw [show i + 1 + j + 1 = i + (j + 1) + 1 by omega]; exact z))) (fun acc st z => hd acc st (by rw [show i + (ds.length + 1) = i + 1 + ds.length by omega]; exact z)) hC
    have hl2 : ∀ x, (acc ++ [x]).length ≤ i + 1 := fun x => by rw [List.length_append, List.length_singleton]; omega
    refine ⟨hC _ _ _ h, ?_⟩
    exact step 0 d st acc _ rfl h (fun x st' z => ⟨by omega, go _ _ (hl2 x) z⟩) (fun st' z => go _ _ (by omega) z)
/-- each turn gives g -/
theorem turns_map {C : Store → Prop} {f : D → Store → (Option D → Store → Prop) → Prop} {Q : List D → Store → Prop} {g : D → D} {st : Store} : ∀ (ds acc : List D), acc.length + ds.length ≤ sizeLine → (∀ d ∈ ds, ∀ k : Option D → Store → Prop, k (some (g d)) st → f d st k) → Q (acc ++ ds.map g) st → (hC : C st := by trivial) → turns C f ds st acc Q
  | [], acc, hl, h, q, hC => ⟨hC, by simpa using q⟩
  | d :: ds, acc, hl, h, q, hC => by
    simp only [List.length_cons] at hl
    unfold turns
    refine ⟨hC, ?_⟩
    refine h d List.mem_cons_self _ ⟨by omega, turns_map ds (acc ++ [g d]) (by simp; omega) (fun e he => h e (List.mem_cons_of_mem _ he)) ?_ hC⟩
    simpa using q
/-- .. where c -/
theorem turns_filter {C : Store → Prop} {f : D → Store → (Option D → Store → Prop) → Prop} {Q : List D → Store → Prop} {g : D → D} {c : D → Bool} {st : Store} : ∀ (ds acc : List D), acc.length + ds.length ≤ sizeLine →
    (∀ d ∈ ds, ∀ k : Option D → Store → Prop, (c d = true → k (some (g d)) st) → (c d = false → k none st) → f d st k) → Q (acc ++ (ds.filter c).map g) st → (hC : C st := by trivial) → turns C f ds st acc Q
  | [], acc, hl, h, q, hC => ⟨hC, by simpa using q⟩
  | d :: ds, acc, hl, h, q, hC => by
    simp only [List.length_cons] at hl
    unfold turns
    refine ⟨hC, ?_⟩
    refine h d List.mem_cons_self _ (fun e => ⟨by omega, turns_filter ds (acc ++ [g d]) (by simp; omega) (fun e he => h e (List.mem_cons_of_mem _ he)) ?_ hC⟩) (fun e => turns_filter ds acc (by omega) (fun e he => h e (List.mem_cons_of_mem _ he)) ?_ hC)
    · simpa [List.filter_cons, e] using q
    · simpa [List.filter_cons, e] using q
/-! ### for, while -/
theorem forL_inv {C : Store → Prop} {p : Pt} {f : Env → Store → Kn → Prop} {K : Kn} (J : Nat → Env → Store → Prop) : ∀ (ds : List D) (i : Nat) (ρ : Env) (st : Store), J i ρ st →
    (∀ j d ρ st (N : Env → Store → Prop), ds[j]? = some d → J (i + j) ρ st → (∀ ρ' st', J (i + j + 1) ρ' st' → N ρ' st') → asg p d ρ fun ρ1 => f ρ1 st { nx := N, rt := K.rt, bk := K.nx, ct := N }) →
    (∀ ρ st, J (i + ds.length) ρ st → K.nx ρ st) → (hC : ∀ i ρ st, J i ρ st → C st := by intros; trivial) → forL p f K C ds ρ st
  | [], i, ρ, st, h, step, hd, hC => ⟨hC _ _ _ h, hd ρ st (by simpa using h)⟩
  | d :: ds, i, ρ, st, h, step, hd, hC => by
    simp only [List.length_cons] at hd
    unfold forL
    refine ⟨hC _ _ _ h, ?_⟩
    refine step 0 d ρ st _ rfl h fun ρ' st' h' => forL_inv J ds (i + 1) ρ' st' h' (fun j e ρ st N hj hJ hN => step (j + 1) e ρ st N (by simpa using hj) (by rw [show i + (j + 1) = i + 1 + j by omega]; exact hJ)
      (fun ρ' st' z => hN ρ' st' (by rw [show i + 1 + j + 1 = i + (j + 1) + 1 by omega]; exact z))) (fun ρ st z => hd ρ st (by rw [show i + (ds.length + 1) = i + 1 + ds.length by omega]; exact z)) hC
theorem whlN_inv {c : Env → Store → Post → Prop} {f : Env → Store → Kn → Prop} {K : Kn} (J : Nat → Env → Store → Prop)
    (step : ∀ m ρ st (N : Env → Store → Prop), J m ρ st → (∀ m' ρ' st', m' < m → J m' ρ' st' → N ρ' st') → c ρ st fun d st1 => ∃ b, d = .bl b ∧ (if b = true then f ρ st1 { nx := N, rt := K.rt, bk := K.nx, ct := N } else K.nx ρ st1)) :
    ∀ (n : Nat) (ρ : Env) (st : Store) (m : Nat), m < n → J m ρ st → whlN c f K n ρ st
  | 0, _, _, _, h, _ => absurd h (Nat.not_lt_zero _)
  | n + 1, ρ, st, m, h, hJ => step m ρ st _ hJ fun m' ρ' st' hm hJ' => whlN_inv J step n ρ' st' m' (by omega) hJ'
/-! ### what built-ins give -/
theorem bools_map (g : D → Bool) : ∀ ds : List D, boolsD (ds.map fun d => .bl (g d)) = some (ds.map g)
  | [] => rfl
  | d :: ds => by simp [boolsD, bools_map g ds]
theorem ints_map (g : D → Int) : ∀ ds : List D, intsD (ds.map fun d => .int (g d)) = some (ds.map g)
  | [] => rfl
  | d :: ds => by simp [intsD, ints_map g ds]
/-! ### data of some size -/
/-- a plain text -/
def ascii (x : Str) : Bool := x.cps.all fun c => decide (c < 128)
theorem ascii_ok {x : Str} (h : ascii x = true) : PyData.strOk x = true := by
  unfold ascii at h
  unfold PyData.strOk
  rw [Array.all_eq_true'] at h ⊢
  intro c hc
  have := h c hc
  simp only [decide_eq_true_eq] at this ⊢
  omega
mutual
/-- plain data: so deep, lists and texts so long -/
def D.ok (b : Nat) : Nat → D → Bool
  | _, .non => true
  | _, .bl _ => true
  | _, .int _ => true
  | _, .str x => ascii x && decide (x.length ≤ b)
  | n, .tup xs => match n with | 0 => false | n + 1 => decide (xs.length ≤ b) && D.oks b n xs
  | n, .lst xs => match n with | 0 => false | n + 1 => decide (xs.length ≤ b) && D.oks b n xs
  | _, _ => false
def D.oks (b : Nat) : Nat → List D → Bool
  | _, [] => true
  | n, x :: xs => D.ok b n x && D.oks b n xs
end
theorem oks_iff {b n : Nat} : ∀ {xs : List D}, D.oks b n xs = true ↔ ∀ x ∈ xs, D.ok b n x = true
  | [] => by simp [D.oks]
  | x :: xs => by simp [D.oks, oks_iff (xs := xs)]
theorem dats_iff {n : Nat} : ∀ {xs : List D}, D.dats n xs = true ↔ ∀ x ∈ xs, D.dat n x = true
  | [] => by simp [D.dats]
  | x :: xs => by simp [D.dats, dats_iff (xs := xs)]
mutual
theorem D.ok.mono {b c : Nat} (hb : b ≤ c) : ∀ {n m : Nat} {d : D}, n ≤ m → D.ok b n d = true → D.ok c m d = true
  | _, _, .non, _, _ => by unfold D.ok; rfl
  | _, _, .bl _, _, _ => by unfold D.ok; rfl
  | _, _, .int _, _, _ => by unfold D.ok; rfl
  | _, _, .str x, _, h => by unfold D.ok at h ⊢; simp only [Bool.and_eq_true, decide_eq_true_eq] at h ⊢; exact ⟨h.1, Nat.le_trans h.2 hb⟩
  | 0, _, .tup _, _, h => by simp [D.ok] at h
  | n + 1, 0, .tup _, h', _ => by omega
  | n + 1, m + 1, .tup xs, h', h => by
    simp only [D.ok, Bool.and_eq_true, decide_eq_true_eq] at h ⊢
    exact ⟨Nat.le_trans h.1 hb, D.oks.mono hb (by omega) h.2⟩
  | 0, _, .lst _, _, h => by simp [D.ok] at h
  | n + 1, 0, .lst _, h', _ => by omega
  | n + 1, m + 1, .lst xs, h', h => by
    simp only [D.ok, Bool.and_eq_true, decide_eq_true_eq] at h ⊢
    exact ⟨Nat.le_trans h.1 hb, D.oks.mono hb (by omega) h.2⟩
  | _, _, .dct _, _, h => by simp [D.ok] at h
  | _, _, .ins _ _, _, h => by simp [D.ok] at h
  | _, _, .loc _, _, h => by simp [D.ok] at h
  | _, _, .clo _, _, h => by simp [D.ok] at h
  | _, _, .ro _, _, h => by simp [D.ok] at h
  | _, _, .pr _ _, _, h => by simp [D.ok] at h
theorem D.oks.mono {b c : Nat} (hb : b ≤ c) : ∀ {n m : Nat} {d : List D}, n ≤ m → D.oks b n d = true → D.oks c m d = true
  | _, _, [], _, _ => by unfold D.oks; rfl
  | _, _, x :: xs, h', h => by
    simp only [D.oks, Bool.and_eq_true] at h ⊢
    exact ⟨D.ok.mono hb h' h.1, D.oks.mono hb h' h.2⟩
end
mutual
theorem D.ok.dat {b : Nat} : ∀ {n m : Nat} {d : D}, n ≤ m → D.ok b n d = true → d.dat m = true
  | _, _, .non, _, _ => by unfold D.dat; rfl
  | _, _, .bl _, _, _ => by unfold D.dat; rfl
  | _, _, .int _, _, _ => by unfold D.dat; rfl
  | _, _, .str x, _, h => by unfold D.ok at h; unfold D.dat; simp only [Bool.and_eq_true] at h; exact ascii_ok h.1
  | 0, _, .tup _, _, h => by simp [D.ok] at h
  | n + 1, 0, .tup _, h', _ => by omega
  | n + 1, m + 1, .tup xs, h', h => by
    simp only [D.ok, Bool.and_eq_true] at h
    simp only [D.dat]
    exact D.oks.dat (by omega) h.2
  | 0, _, .lst _, _, h => by simp [D.ok] at h
  | n + 1, 0, .lst _, h', _ => by omega
  | n + 1, m + 1, .lst xs, h', h => by
    simp only [D.ok, Bool.and_eq_true] at h
    simp only [D.dat]
    exact D.oks.dat (by omega) h.2
  | _, _, .dct _, _, h => by simp [D.ok] at h
  | _, _, .ins _ _, _, h => by simp [D.ok] at h
  | _, _, .loc _, _, h => by simp [D.ok] at h
  | _, _, .clo _, _, h => by simp [D.ok] at h
  | _, _, .ro _, _, h => by simp [D.ok] at h
  | _, _, .pr _ _, _, h => by simp [D.ok] at h
theorem D.oks.dat {b : Nat} : ∀ {n m : Nat} {d : List D}, n ≤ m → D.oks b n d = true → D.dats m d = true
  | _, _, [], _, _ => by unfold D.dats; rfl
  | _, _, x :: xs, h', h => by
    simp only [D.oks, D.dats, Bool.and_eq_true] at h ⊢
    exact ⟨D.ok.dat h' h.1, D.oks.dat h' h.2⟩
end
theorem rsv_ok {b n : Nat} {st : Store} {d : D} (h : D.ok b n d = true) : rsv st d = d := by
  cases d <;> first | rfl | simp [D.ok] at h
/-! ### specs -/
/-- no change, a value -/
def pureS (pre : List D → Prop) (val : List D → D) : Spec := fun ds st P _ => pre ds ∧ P (val ds) st
end G
/-! Defs by the head's facts. -/
namespace G
open PySem PySem.Spec PyProof.Rows L2
/-- the context of these names, defs, methods, fields -/
def mkΓ (gl : List (Str × D)) (fs : List (Str × Spec)) (ms : List ((Str × Str) × Spec) := []) (cs : List (Str × List Str) := []) : Ctx :=
  { fn := fun x => fs.lookup x, me := fun c m => ms.lookup (c, m), gl := fun x => gl.lookup x, cf := fun c f => ((cs.lookup c).getD []).contains f, cl := fun _ _ _ _ _ => False }
/-! ### tuples of whole numbers under names -/
def xtB (K : PySem.W.Frag) (x : Str) (is : List Int) : Bool := eqNs K x && (match K.lookup (He.ga K x) with
  | some ⟨.type c, none, .seq its _, _⟩ => decide (c = "tuple") && decide (its.size ≤ sizeLine) && intsB its.toList is
  | _ => false)
where
  eqNs (K : PySem.W.Frag) (x : Str) : Bool := He.eqO (PySem.W.nsIn K mainGlobals x) (some (some (.ref (He.ga K x))))
  intsB : List Value → List Int → Bool
    | [], [] => true
    | .int i _ :: us, j :: js => decide (i = j) && intsB us js
    | _, _ => false
theorem intsB_ok : ∀ {us : List Value} {is : List Int}, xtB.intsB us is = true → Vals (is.map V.int) us
  | [], [], _ => .nil
  | [], _ :: _, h => by simp [xtB.intsB] at h
  | u :: us, [], h => by cases u <;> simp [xtB.intsB] at h
  | u :: us, j :: js, h => by
    cases u <;> simp only [xtB.intsB, Bool.and_eq_true, decide_eq_true_eq, Bool.false_eq_true] at h
    obtain ⟨rfl, h2⟩ := h
    exact .cons ⟨_, rfl⟩ (intsB_ok h2)
def Says (fa : List He.Fa) (fn : List He.DefD) (xt : List (Str × List Int)) (K : PySem.W.Frag) : Prop := He.SaysD fa fn K ∧ (xt.all fun p => xtB K p.1 p.2) = true
def obsXG (n : Nat) (fa : List He.Fa) (fn : List He.DefD) (xt : List (Str × List Int)) (g : Addr → Option Obj) : He.AlD × Bool := (He.obsDG n fa fn g, xt.all fun p => xtB (He.frG g (He.asD g n)) p.1 p.2)
def hookX (n : Nat) (fa : List He.Fa) (fn : List He.DefD) (xt : List (Str × List Int)) : PySem.W.Hook where
  α := He.AlD × Bool
  obs := fun s => obsXG n fa fn xt s.heap.get?
  val := fun _ => (He.valD fn, true)
  says := fun _ h => ∃ K : PySem.W.Frag, K.In h ∧ Says fa fn xt K
  of := fun _ _ e => ⟨_, He.frG_in, congrArg Prod.fst e, congrArg Prod.snd e⟩
  keeps := fun _ _ _ ⟨K, hK, c⟩ k => ⟨K, PySem.W.Frag.In.keeps hK k, c⟩
theorem obsXG_eq {n : Nat} {fa : List He.Fa} {fn : List He.DefD} {xt : List (Str × List Int)} {g : Addr → Option Obj} {s : Shared} (h : ∀ a, g a = s.heap.get? a) : obsXG n fa fn xt g = (hookX n fa fn xt).obs s := by
  have e : g = s.heap.get? := funext h
  rw [e] <;> rfl
section
variable {W : Wd} {P : Program} {mg : Str → Option Value} {base : Heap}
theorem fn_okD {Γ : Ctx} {k : Nat} {x qual : Str} {s : Stmt} {f : Addr} {fd : FuncData} {κ : Kx} {ps : List Str} {body : Ss} {sp : Spec} (G : Gx Γ W P mg base k) (F : FunD W.K x qual (defArgs s) (defBody s) (defScope s) [] [] f fd) (S : FnScope κ.N ps (defScope s))
    (hf : ∀ f ∈ κ.fns, ∃ sp, Γ.fn f = some sp) (hm : ∀ c m, (c, m) ∈ κ.mes → ∃ sp, Γ.me c m = some sp) (hch : chSs κ (defScope s) body (defBody s) = true) (law : Does Γ κ.N.length ps.length body sp) :
    FnOk P W.w W.K mg base L2.CX0 (k + 1) f fd ps (LS W sp) := by
  refine F.ok S (fun vs H Q E ⟨B, st, ds, P', o, l, h, q⟩ => ?_) (fun cdv A outer s' H vs Q E hr ⟨B, st, ds, P', o, l, h, q⟩ => ?_)
  · rw [l.length]; exact (law _ _ _ h).1
  · have ok : Oks Γ W κ (defScope s) (cxOf L2.CX0 P W.w W.K mg base κ.N qual (defScope s) f cdv A outer s' H E).nox :=
      { hN := rfl, hsc := rfl, nd := S.nd, fns := hf, mes := hm, fx := G.fx hr, kind := S.kind, pas := PassesOwn.never, fnT := fun _ => rfl }
    refine ⟨_, PSs.nox (soSs ok body _ hch), B, _, st, _, start_rep o l, (law _ _ _ h).2, fun ρ' st' σ' H' z r g => q _ _ _ _ z .non r.ob g, fun d st' v H' z r o g => q _ _ _ _ z r o g, fun _ _ _ _ z => z.elim, fun _ _ _ _ z => z.elim⟩
/-- no call keeps it -/
def noSp : Spec := fun _ _ _ _ => False
theorem fn_void {x qual : Str} {s : Stmt} {f : Addr} {fd : FuncData} {N ps : List Str} {sp : Spec} (hsp : ∀ ds st P X, sp ds st P X → False) (F : FunD W.K x qual (defArgs s) (defBody s) (defScope s) [] [] f fd) (S : FnScope N ps (defScope s)) : FnOk P W.w W.K mg base L2.CX0 1 f fd ps (LS W sp) :=
  F.ok S (fun vs H Q E ⟨B, st, ds, P', o, l, h, q⟩ => (hsp _ _ _ _ h).elim) (fun cdv A outer s' H vs Q E hr ⟨B, st, ds, P', o, l, h, q⟩ => (hsp _ _ _ _ h).elim)
theorem cal_okD {k : Nat} {x qual : Str} {s : Stmt} {f : Addr} {fd : FuncData} {ps : List Str} {sp : Spec} (F : FunD W.K x qual (defArgs s) (defBody s) (defScope s) [] [] f fd) (b : Binds W.K fd ps []) (m : mg x = some (.ref f)) (h : FnOk P W.w W.K mg base L2.CX0 k f fd ps (LS W sp)) :
    C8.Cal P W.w W.K mg base k x (LS W sp) [] := ⟨f, fd, ps, [], h, m, F.kp, b, .nil⟩
theorem gx_step {gl : List (Str × D)} {fs : List (Str × Spec)} {ms : List ((Str × Str) × Spec)} {cs : List (Str × List Str)} {k : Nat} {x : Str} {sp : Spec} (G : Gx (mkΓ gl fs ms cs) W P mg base k) (c : C8.Cal P W.w W.K mg base (k + 1) x (LS W sp) []) : Gx (mkΓ gl ((x, sp) :: fs) ms cs) W P mg base (k + 1) where
  bn := G.bn
  gl := G.gl
  fn := fun f s e => by
    have e : ((x, sp) :: fs).lookup f = some s := e
    rw [List.lookup_cons] at e
    cases q : f == x with
    | true =>
      rw [q] at e
      cases e
      rw [eq_of_beq q]
      exact ⟨k + 1, Nat.le_refl _, c⟩
    | false =>
      rw [q] at e
      obtain ⟨j, hj, h⟩ := G.fn f s e
      exact ⟨j, by omega, h⟩
  cf := G.cf
  me := fun c m s e h => let ⟨C, j, h1, h2, h3⟩ := G.me c m s e h; ⟨C, j, by omega, h2, h3⟩
  nw := fun c s e => let ⟨C, j, h1, h2, h3⟩ := G.nw c s e; ⟨C, j, by omega, h2, h3⟩
theorem lookP {a b : Str × Str} {sp s : Spec} {l : List ((Str × Str) × Spec)} (e : ((a, sp) :: l).lookup b = some s) : (b = a ∧ s = sp) ∨ l.lookup b = some s := by
  rw [List.lookup_cons] at e
  cases q : b == a with
  | true => rw [q] at e; cases e; exact .inl ⟨eq_of_beq q, rfl⟩
  | false => rw [q] at e; exact .inr e
/-- a method more -/
theorem gx_stepM {gl : List (Str × D)} {fs : List (Str × Spec)} {ms : List ((Str × Str) × Spec)} {cs : List (Str × List Str)} {k : Nat} {c m : Str} {C : Addr} {sp : Spec} (hm : m ≠ "__init__") (hC : W.cls c = some C) (G : Gx (mkΓ gl fs ms cs) W P mg base k) (t : C8.Met P W.w W.K mg base (k + 1) C m (LS W sp) []) : Gx (mkΓ gl fs (((c, m), sp) :: ms) cs) W P mg base (k + 1) where
  bn := G.bn
  gl := G.gl
  fn := fun f s e => let ⟨j, h1, h2⟩ := G.fn f s e; ⟨j, by omega, h2⟩
  cf := G.cf
  me := fun c' m' s e h => by
    rcases lookP (show (((c, m), sp) :: ms).lookup (c', m') = some s from e) with ⟨q, rfl⟩ | e
    · cases q
      exact ⟨C, k + 1, Nat.le_refl _, hC, t⟩
    · obtain ⟨C, j, h1, h2, h3⟩ := G.me c' m' s e h
      exact ⟨C, j, by omega, h2, h3⟩
  nw := fun c' s e => by
    rcases lookP (show (((c, m), sp) :: ms).lookup (c', ("__init__" : Str)) = some s from e) with ⟨q, _⟩ | e
    · cases q; exact (hm rfl).elim
    · obtain ⟨C, j, h1, h2, h3⟩ := G.nw c' s e
      exact ⟨C, j, by omega, h2, h3⟩
/-- a class that can be made -/
theorem gx_stepN {gl : List (Str × D)} {fs : List (Str × Spec)} {ms : List ((Str × Str) × Spec)} {cs : List (Str × List Str)} {k : Nat} {c : Str} {C : Addr} {sp : Spec} (hC : W.cls c = some C) (G : Gx (mkΓ gl fs ms cs) W P mg base k) (t : C8.Mak P W.w W.K mg base (k + 1) c C (LS W sp) []) : Gx (mkΓ gl fs (((c, ("__init__" : Str)), sp) :: ms) cs) W P mg base (k + 2) where
  bn := G.bn
  gl := G.gl
  fn := fun f s e => let ⟨j, h1, h2⟩ := G.fn f s e; ⟨j, by omega, h2⟩
  cf := G.cf
  me := fun c' m' s e h => by
    rcases lookP (show (((c, ("__init__" : Str)), sp) :: ms).lookup (c', m') = some s from e) with ⟨q, rfl⟩ | e
    · cases q; exact (h rfl).elim
    · obtain ⟨C, j, h1, h2, h3⟩ := G.me c' m' s e h
      exact ⟨C, j, by omega, h2, h3⟩
  nw := fun c' s e => by
    rcases lookP (show (((c, ("__init__" : Str)), sp) :: ms).lookup (c', ("__init__" : Str)) = some s from e) with ⟨q, rfl⟩ | e
    · cases q
      exact ⟨C, k + 1, by omega, hC, t⟩
    · obtain ⟨C, j, h1, h2, h3⟩ := G.nw c' s e
      exact ⟨C, j, by omega, h2, h3⟩
theorem cal_mono {j k : Nat} {x : Str} {sp : Sp} {w : World} {K : PySem.W.Frag} (h : C8.Cal P w K mg base j x sp []) : C8.Cal P w K mg base j x sp [] := h
end
/-- a method in the head's list -/
def dOfM (c m q : Str) (s : Stmt) : He.DefD := ⟨(c, some m), m, q, defArgs s, defBody s, defScope s, [], []⟩
/-- a def of the module in the head's list -/
def dOf (x : Str) (s : Stmt) : He.DefD := ⟨(x, none), x, x, defArgs s, defBody s, defScope s, [], []⟩
section
variable {W : Wd} {P : Program} {mg : Str → Option Value} {base h : Heap} {fa : List He.Fa} {fn : List He.DefD}
theorem gx_def {gl : List (Str × D)} {fs : List (Str × Spec)} {ms : List ((Str × Str) × Spec)} {cs : List (Str × List Str)} {k : Nat} {x : Str} {s : Stmt} {κ : Kx} {ps : List Str} {body : Ss} {sp : Spec} (KX : W.K.In h) (GM : h.Ns mainGlobals mg) (c : He.SaysD fa fn W.K)
    (i j : Nat) (hd : fn[i]? = some (dOf x s)) (hg : fa[j]? = some (.glo x)) (G : Gx (mkΓ gl fs ms cs) W P mg base k) (S : FnScope κ.N ps (defScope s)) (hch : chSs κ (defScope s) body (defBody s) = true)
    (hb : ∀ (kV doc pm : Value) (an : Option Addr) (cdv ct : Value) (us : List Value), us.length = ps.length → bindArgs (PySem.W.fnOf x x (defArgs s) (defBody s) (defScope s) .none kV doc pm an cdv ct) ⟨us, []⟩ = pure (ps.zip us))
    (hf : ∀ f ∈ κ.fns, ∃ sp, (mkΓ gl fs ms cs).fn f = some sp) (hm : ∀ p ∈ κ.mes, ∃ sp, ms.lookup p = some sp) (law : Does (mkΓ gl fs ms cs) κ.N.length ps.length body sp) : Gx (mkΓ gl ((x, sp) :: fs) ms cs) W P mg base (k + 1) := by
  obtain ⟨fd, F⟩ := c.def_ i (d := dOf x s) hd
  have m := He.glo_ok KX GM (c.fact j (f := .glo x) hg)
  exact gx_step G (cal_okD F (FunD.bindsN F hb) m (fn_okD G F S hf (fun c m e => hm (c, m) e) hch law))
theorem gx_void {gl : List (Str × D)} {fs : List (Str × Spec)} {ms : List ((Str × Str) × Spec)} {cs : List (Str × List Str)} {k : Nat} {x : Str} {s : Stmt} {N ps : List Str} {sp : Spec} (KX : W.K.In h) (GM : h.Ns mainGlobals mg) (c : He.SaysD fa fn W.K)
    (i j : Nat) (hd : fn[i]? = some (dOf x s)) (hg : fa[j]? = some (.glo x)) (G : Gx (mkΓ gl fs ms cs) W P mg base k) (S : FnScope N ps (defScope s)) (hsp : ∀ ds st P X, sp ds st P X → False)
    (hb : ∀ (kV doc pm : Value) (an : Option Addr) (cdv ct : Value) (us : List Value), us.length = ps.length → bindArgs (PySem.W.fnOf x x (defArgs s) (defBody s) (defScope s) .none kV doc pm an cdv ct) ⟨us, []⟩ = pure (ps.zip us)) : Gx (mkΓ gl ((x, sp) :: fs) ms cs) W P mg base (k + 1) := by
  obtain ⟨fd, F⟩ := c.def_ i (d := dOf x s) hd
  have m := He.glo_ok KX GM (c.fact j (f := .glo x) hg)
  refine gx_step G (cal_okD F (FunD.bindsN F hb) m ?_)
  exact (fn_void (W := W) (P := P) (mg := mg) (base := base) hsp F S).mono (by omega)
/-- a method, by its small text -/
theorem gx_meth {gl : List (Str × D)} {fs : List (Str × Spec)} {ms : List ((Str × Str) × Spec)} {cs : List (Str × List Str)} {k : Nat} {x m q : Str} {s : Stmt} {κ : Kx} {ps : List Str} {body : Ss} {sp : Spec} (hx : W.cls x = some (He.ga W.K x)) (hne : m ≠ "__init__") (c : He.SaysD fa fn W.K)
    (i j l : Nat) (hd : fn[i]? = some (dOfM x m q s)) (hg : fa[j]? = some (.cls x)) (hl : fa[l]? = some (.meth x m)) (G : Gx (mkΓ gl fs ms cs) W P mg base k) (S : FnScope κ.N ps (defScope s)) (hch : chSs κ (defScope s) body (defBody s) = true)
    (hb : ∀ (kV doc pm : Value) (an : Option Addr) (cdv ct : Value) (us : List Value), us.length = ps.length → bindArgs (PySem.W.fnOf m q (defArgs s) (defBody s) (defScope s) .none kV doc pm an cdv ct) ⟨us, []⟩ = pure (ps.zip us))
    (hf : ∀ f ∈ κ.fns, ∃ sp, (mkΓ gl fs ms cs).fn f = some sp) (hm : ∀ p ∈ κ.mes, ∃ sp, ms.lookup p = some sp) (law : Does (mkΓ gl fs ms cs) κ.N.length ps.length body sp) : Gx (mkΓ gl fs (((x, m), sp) :: ms) cs) W P mg base (k + 1) := by
  obtain ⟨fd, F⟩ := c.def_ i (d := dOfM x m q s) hd
  exact gx_stepM hne hx G ⟨_, fd, ps, [], He.cls_ok (c.fact j hg), He.meth_ok (c.fact l hl), fn_okD G F S hf (fun c m e => hm (c, m) e) hch law, FunD.bindsN F hb, .nil⟩
/-- a class's __init__ -/
theorem gx_init {gl : List (Str × D)} {fs : List (Str × Spec)} {ms : List ((Str × Str) × Spec)} {cs : List (Str × List Str)} {k : Nat} {x q : Str} {s : Stmt} {κ : Kx} {ps : List Str} {body : Ss} {sp : Spec} (KX : W.K.In h) (GM : h.Ns mainGlobals mg) (hx : W.cls x = some (He.ga W.K x)) (c : He.SaysD fa fn W.K)
    (i j l : Nat) (hd : fn[i]? = some (dOfM x "__init__" q s)) (hg : fa[j]? = some (.glo x)) (hl : fa[l]? = some (.mkr x)) (G : Gx (mkΓ gl fs ms cs) W P mg base k) (S : FnScope κ.N ps (defScope s)) (hch : chSs κ (defScope s) body (defBody s) = true)
    (hb : ∀ (kV doc pm : Value) (an : Option Addr) (cdv ct : Value) (us : List Value), us.length = ps.length → bindArgs (PySem.W.fnOf "__init__" q (defArgs s) (defBody s) (defScope s) .none kV doc pm an cdv ct) ⟨us, []⟩ = pure (ps.zip us))
    (hf : ∀ f ∈ κ.fns, ∃ sp, (mkΓ gl fs ms cs).fn f = some sp) (hm : ∀ p ∈ κ.mes, ∃ sp, ms.lookup p = some sp) (law : Does (mkΓ gl fs ms cs) κ.N.length ps.length body sp) : Gx (mkΓ gl fs (((x, ("__init__" : Str)), sp) :: ms) cs) W P mg base (k + 2) := by
  obtain ⟨fd, F⟩ := c.def_ i (d := dOfM x "__init__" q s) hd
  exact gx_stepN hx G ⟨_, fd, ps, [], He.mkr_ok (c.fact l hl), fn_okD G F S hf (fun c m e => hm (c, m) e) hch law, He.glo_ok KX GM (c.fact j hg), FunD.bindsN F hb, .nil⟩
end
section
variable {α : Type} {p : α → Prop}
theorem hf_nil : ∀ f ∈ ([] : List α), p f := fun f h => by cases h
theorem hf_cons {a : α} {l : List α} (h : p a) (t : ∀ f ∈ l, p f) : ∀ f ∈ a :: l, p f := fun f hf => by
  rcases List.mem_cons.mp hf with rfl | hf
  · exact h
  · exact t f hf
end
/-- a global that is told -/
def GlOk (W : Wd) (mg : Str → Option Value) (x : Str) (d : D) : Prop := ∃ v u, mg x = some u ∧ RelV v u ∧ ∀ B st H, Rep W B st H v d
theorem gl_nil {W : Wd} {mg : Str → Option Value} : ∀ x d, ([] : List (Str × D)).lookup x = some d → GlOk W mg x d := fun x d h => by cases h
theorem gl_cons {W : Wd} {mg : Str → Option Value} {y : Str} {e : D} {l : List (Str × D)} (h : GlOk W mg y e) (t : ∀ x d, l.lookup x = some d → GlOk W mg x d) : ∀ x d, ((y, e) :: l).lookup x = some d → GlOk W mg x d := fun x d hx => by
  rw [List.lookup_cons] at hx
  cases q : x == y with
  | true => rw [q] at hx; cases hx; rw [eq_of_beq q]; exact h
  | false => rw [q] at hx; exact t x d hx
theorem gl_str {W : Wd} {mg : Str → Option Value} {x z : Str} (h : ∃ t, mg x = some (.str z t)) : GlOk W mg x (.str z) := by
  obtain ⟨t, h⟩ := h
  exact ⟨.str z, _, h, ⟨t, rfl⟩, fun _ _ _ => .str z⟩
theorem gl_int {W : Wd} {mg : Str → Option Value} {x : Str} {i : Int} (h : ∃ t, mg x = some (.int i t)) : GlOk W mg x (.int i) := by
  obtain ⟨t, h⟩ := h
  exact ⟨.int i, _, h, ⟨t, rfl⟩, fun _ _ _ => .int i⟩
theorem gl_xt {W : Wd} {mg : Str → Option Value} {x : Str} {is : List Int} {h : Heap} (KX : W.K.In h) (GM : h.Ns mainGlobals mg) (c : xtB W.K x is = true) : GlOk W mg x (.tup (is.map D.int)) := by
  unfold xtB at c
  rw [Bool.and_eq_true] at c
  obtain ⟨c1, c2⟩ := c
  have m : mg x = some (.ref (He.ga W.K x)) := PySem.W.mg_of KX GM (He.eqO_ok c1)
  split at c2 <;> try cases c2
  rename_i cl its n sl hk
  simp only [Bool.and_eq_true, decide_eq_true_eq] at c2
  obtain ⟨⟨rfl, c3⟩, c4⟩ := c2
  refine ⟨.ref (He.ga W.K x), _, m, rfl, fun B st H => .tup (.inr ⟨_, its, n, rfl, hk, rfl, rfl, c3, intsB_ok c4⟩) ?_⟩
  clear c4 c3
  induction is with
  | nil => exact .nil
  | cons i is ih => exact .cons (.int i) ih
theorem gx_nil {W : Wd} {P : Program} {mg : Str → Option Value} {base : Heap} {gl : List (Str × D)} {cs : List (Str × List Str)} (bn : ∀ x ∈ bnames, mg x = none) (g : ∀ x d, gl.lookup x = some d → GlOk W mg x d)
    (cf : ∀ c f C, (mkΓ gl [] [] cs).cf c f = true → W.cls c = some C → Cls W.K C ∧ NoAttr W.K C f) : Gx (mkΓ gl [] [] cs) W P mg base 0 where
  bn := bn
  gl := g
  fn := fun f s e => by cases e
  cf := cf
  me := fun _ _ _ h => by cases h
  nw := fun _ _ h => by cases h
/-- the script: whole numbers -/
def Ints (xs : List D) : Prop := ∀ x ∈ xs, ∃ i, x = .int i
/-- every law: True -/
def sp_law : Spec := fun ds st P _ => ∃ xs, ds = [.ro xs] ∧ Ints xs ∧ xs.length ≤ 63 ∧ ∀ st', P (.bl true) st'
theorem ints_rep {W : Wd} {B : Addr → Prop} {st : Store} {H : Hp} : ∀ ns : List Int, RepL W B st H (ns.map V.int) (ns.map D.int)
  | [] => .nil
  | n :: ns => .cons (.int n) (ints_rep ns)
theorem end_law {W : Wd} {H : Hp} {a : Addr} {ns : List Int} (hl : ns.length ≤ 63) (hT : TabR W (fun _ => False) (fun _ => none) H) (hO : Only H) (hS : SqL W.K H a (ns.map V.int)) : LS W sp_law [.ref a] H (fun v _ => v = .bl true) (fun _ _ _ => False) := by
  refine ⟨fun _ => False, fun _ => none, [.ro (ns.map D.int)], fun d _ => d = .bl true, ⟨fun _ _ h => (by cases h), fun _ h => h.elim, hT⟩, .cons (.ro ?_ (ints_rep ns)) .nil, ⟨_, rfl, fun x hx => ?_, by simpa using hl, fun _ => rfl⟩, fun d st' v H' hd r _ _ => ?_⟩
  · rcases hS with (h | ⟨o, h⟩) | h
    · rcases hO a with h' | ⟨o, xs, h'⟩
      · rw [h'] at h; cases h
      · rw [h'] at h; cases h
    · exact .inl ⟨⟨rfl, fun z => z⟩, o, h⟩
    · exact .inr h
  · obtain ⟨i, _, rfl⟩ := List.mem_map.mp hx
    exact ⟨i, rfl⟩
  · subst hd
    cases r
    rfl
end G
/-! Readings simplified. -/
namespace G
open PySem PySem.Spec PyProof.Rows L2
def ty1 : Ty → D → Bool
  | t, .bl _ => t == .bool || t == .int
  | t, .int _ => t == .int
  | t, .str _ => t == .str
  | t, .tup _ => t == .tuple
  | t, .lst _ => t == .list
  | _, _ => false
def clsB : Ty → Bool | .cls _ => true | _ => false
theorem isTys_ok {b n : Nat} {st : Store} {d : D} (h : D.ok b n d = true) : ∀ {ts : List Ty}, ts.all (fun t => !clsB t) = true → isTys ts (rsv st d) = some (ts.any fun t => ty1 t d)
  | [], _ => rfl
  | t :: ts, ht => by
    rw [List.all_cons, Bool.and_eq_true] at ht
    unfold isTys
    rw [isTys_ok h ht.2, rsv_ok h]
    have : isTy t d = some (ty1 t d) := by
      have := ht.1
      cases t <;> cases d <;> first | rfl | (simp [D.ok] at h; done) | (simp [clsB] at this; done)
    rw [this]
    rfl
theorem startE_eq (n : Nat) (ds : List D) : startE n ds = ds.map some ++ List.replicate (n - ds.length) none := rfl
theorem ty_int {x : D} : ty1 .int x = true ↔ (∃ i, x = .int i) ∨ ∃ b, x = .bl b := by
  cases x <;> simp [ty1] <;> rfl
theorem ty_bool {x : D} : ty1 .bool x = true ↔ ∃ b, x = .bl b := by
  cases x <;> simp [ty1] <;> decide
theorem ty_str {x : D} : ty1 .str x = true ↔ ∃ b, x = .str b := by
  cases x <;> simp [ty1] <;> decide
theorem ty_tup {x : D} : ty1 .tuple x = true ↔ ∃ b, x = .tup b := by
  cases x <;> simp [ty1] <;> decide
theorem ty_lst {x : D} : ty1 .list x = true ↔ ∃ b, x = .lst b := by
  cases x <;> simp [ty1] <;> decide
theorem ok_tup {b n : Nat} {xs : List D} (h : D.ok b n (.tup xs) = true) : ∃ m, n = m + 1 ∧ xs.length ≤ b ∧ ∀ x ∈ xs, D.ok b m x = true := by
  cases n with
  | zero => simp [D.ok] at h
  | succ n =>
    simp only [D.ok, Bool.and_eq_true, decide_eq_true_eq, oks_iff] at h
    exact ⟨n, rfl, h.1, h.2⟩
theorem ok_lst {b n : Nat} {xs : List D} (h : D.ok b n (.lst xs) = true) : ∃ m, n = m + 1 ∧ xs.length ≤ b ∧ ∀ x ∈ xs, D.ok b m x = true := by
  cases n with
  | zero => simp [D.ok] at h
  | succ n =>
    simp only [D.ok, Bool.and_eq_true, decide_eq_true_eq, oks_iff] at h
    exact ⟨n, rfl, h.1, h.2⟩
theorem ok_str {b n : Nat} {x : Str} (h : D.ok b n (.str x) = true) : PyData.strOk x = true ∧ x.length ≤ b := by
  have : ascii x = true ∧ x.length ≤ b := by simpa [D.ok] using h
  exact ⟨ascii_ok this.1, this.2⟩
end G
/-! What the defs of worlds give. -/
namespace G
open PySem PySem.Spec PyProof.Rows L2
def b_is_between : Ss := (.cons (.ret (.bop true (.cons (.isi (.var 0) [.int]) (.cons (.not (.isi (.var 0) [.bool])) (.cons (.cmp2 .LtE .LtE (.var 1) (.var 0) (.var 2)) .nil))))) .nil)
def b_is_name : Ss := (.cons (.ret (.bop true (.cons (.isi (.var 0) [.str]) (.cons (.cmp2 .LtE .LtE (.int 1) (.bi .len (.var 0)) (.int 8)) (.cons (.bi .all (.fr (.comp [1] (.var 1) (.of (.var 0)) (.cmp .In (.var 1) (.glo "LETTERS"))))) .nil))))) .nil)
def b_rises : Ss := (.cons (.ret (.bi .all (.fr (.comp [1, 2] (.tup (.cons (.var 1) (.cons (.var 2) .nil))) (.zip (.var 0) (.slc (.var 0) (.at (.int 1)) .no)) (.cmp .Lt (.var 1) (.var 2)))))) .nil)
def b_are_facts : Ss := (.cons (.ret (.bop true (.cons (.isi (.var 0) [.tuple]) (.cons (.cmp2 .LtE .LtE (.int 1) (.bi .len (.var 0)) (.int 6)) (.cons (.bi .all (.fr (.comp [1] (.var 1) (.of (.var 0)) (.call "is_name" (.cons (.var 1) .nil))))) (.cons (.call "rises" (.cons (.var 0) .nil)) .nil)))))) .nil)
def b_are_some : Ss := (.cons (.ife (.bop false (.cons (.not (.isi (.var 1) [.tuple])) (.cons (.not (.bi .all (.fr (.comp [2] (.var 2) (.of (.var 1)) (.bop true (.cons (.isi (.var 2) [.str]) (.cons (.cmp .In (.var 2) (.var 0)) .nil))))))) .nil))) (.cons (.ret (.bl false)) .nil) .nil) (.cons (.ret (.call "rises" (.cons (.var 1) .nil))) .nil))
def b_is_pair : Ss := (.cons (.ife (.bop false (.cons (.not (.isi (.var 1) [.tuple])) (.cons (.cmp .NotEq (.bi .len (.var 1)) (.int 2)) (.cons (.not (.bi .all (.fr (.comp [2] (.var 2) (.of (.var 1)) (.call "are_some" (.cons (.var 0) (.cons (.var 2) .nil))))))) .nil)))) (.cons (.ret (.bl false)) .nil) .nil) (.cons (.ret (.not (.bi .any (.fr (.comp [2] (.var 2) (.of (.idx (.var 1) (.int 0))) (.cmp .In (.var 2) (.idx (.var 1) (.int 1)))))))) .nil))
def b_is_deed : Ss := (.cons (.ife (.bop false (.cons (.not (.isi (.var 1) [.tuple])) (.cons (.cmp .NotEq (.bi .len (.var 1)) (.int 4)) (.cons (.not (.call "is_name" (.cons (.idx (.var 1) (.int 0)) .nil))) (.cons (.not (.call "is_between" (.cons (.idx (.var 1) (.int 1)) (.cons (.int 1) (.cons (.int 1000) .nil))))) .nil))))) (.cons (.ret (.bl false)) .nil) .nil) (.cons (.ife (.bop false (.cons (.not (.call "is_pair" (.cons (.var 0) (.cons (.idx (.var 1) (.int 2)) .nil)))) (.cons (.not (.isi (.idx (.var 1) (.int 3)) [.tuple])) (.cons (.not (.cmp2 .LtE .LtE (.int 1) (.bi .len (.idx (.var 1) (.int 3))) (.int 3))) .nil)))) (.cons (.ret (.bl false)) .nil) .nil) (.cons (.ret (.bi .all (.fr (.comp [2] (.var 2) (.of (.idx (.var 1) (.int 3))) (.call "is_pair" (.cons (.var 0) (.cons (.var 2) .nil))))))) .nil)))
def b_is_meddler : Ss := (.cons (.ife (.bop false (.cons (.not (.isi (.var 1) [.tuple])) (.cons (.cmp .NotEq (.bi .len (.var 1)) (.int 3)) (.cons (.not (.call "is_name" (.cons (.idx (.var 1) (.int 0)) .nil))) .nil)))) (.cons (.ret (.bl false)) .nil) .nil) (.cons (.ret (.bop true (.cons (.call "is_pair" (.cons (.var 0) (.cons (.idx (.var 1) (.int 1)) .nil))) (.cons (.call "is_pair" (.cons (.var 0) (.cons (.idx (.var 1) (.int 2)) .nil))) .nil)))) .nil))
def b_are_named : Ss := (.cons (.ret (.bop true (.cons (.isi (.var 0) [.tuple]) (.cons (.cmp .LtE (.bi .len (.var 0)) (.var 1)) (.cons (.call "rises" (.cons (.fr (.comp [2] (.var 2) (.of (.var 0)) (.idx (.var 2) (.int 0)))) .nil)) .nil))))) .nil)
def b_is_world : Ss := (.cons (.ife (.bop false (.cons (.not (.isi (.var 0) [.tuple])) (.cons (.cmp .NotEq (.bi .len (.var 0)) (.int 3)) (.cons (.not (.call "are_facts" (.cons (.idx (.var 0) (.int 0)) .nil))) .nil)))) (.cons (.ret (.bl false)) .nil) .nil) (.cons (.asg (.tup (.cons (.var 1) (.cons (.var 2) (.cons (.var 3) .nil)))) (.var 0)) (.cons (.ife (.bop false (.cons (.not (.isi (.var 2) [.tuple])) (.cons (.not (.bi .all (.fr (.comp [4] (.var 4) (.of (.var 2)) (.call "is_deed" (.cons (.var 1) (.cons (.var 4) .nil))))))) .nil))) (.cons (.ret (.bl false)) .nil) .nil) (.cons (.ife (.bop false (.cons (.not (.isi (.var 3) [.tuple])) (.cons (.not (.bi .all (.fr (.comp [5] (.var 5) (.of (.var 3)) (.call "is_meddler" (.cons (.var 1) (.cons (.var 5) .nil))))))) .nil))) (.cons (.ret (.bl false)) .nil) .nil) (.cons (.ret (.bop true (.cons (.call "are_named" (.cons (.var 2) (.cons (.int 8) .nil))) (.cons (.call "are_named" (.cons (.var 3) (.cons (.int 4) .nil))) .nil)))) .nil)))))
def b_is_state : Ss := (.cons (.ret (.call "are_some" (.cons (.idx (.var 0) (.int 0)) (.cons (.var 1) .nil)))) .nil)
def b_is_condition : Ss := (.cons (.ret (.call "is_pair" (.cons (.idx (.var 0) (.int 0)) (.cons (.var 1) .nil)))) .nil)
def b_is_place : Ss := (.cons (.ife (.bop false (.cons (.not (.isi (.var 1) [.tuple])) (.cons (.cmp .NotEq (.bi .len (.var 1)) (.int 3)) (.cons (.not (.call "is_state" (.cons (.var 0) (.cons (.idx (.var 1) (.int 0)) .nil)))) .nil)))) (.cons (.ret (.bl false)) .nil) .nil) (.cons (.ret (.bop true (.cons (.call "is_between" (.cons (.idx (.var 1) (.int 1)) (.cons (.int 0) (.cons (.glo "MOST") .nil)))) (.cons (.call "is_between" (.cons (.idx (.var 1) (.int 2)) (.cons (.int 0) (.cons (.glo "MOST") .nil)))) .nil)))) .nil))
def b__law_is_name : Ss := (.cons (.ife (.bop false (.cons (.not (.isi (.var 0) [.str])) (.cons (.not (.cmp2 .LtE .LtE (.int 1) (.bi .len (.var 0)) (.int 8))) .nil))) (.cons (.ret (.bl false)) .nil) .nil) (.cons (.ret (.cmp .Eq (.fr (.compif [1] (.var 1) (.of (.var 0)) (.cmp .NotIn (.var 1) (.str "abcdefghijklmnopqrstuvwxyz")) (.var 1))) (.fr (.disp .nil)))) .nil))
def b__law_are_rising : Ss := (.cons (.ife (.not (.isi (.var 0) [.tuple])) (.cons (.ret (.bl false)) .nil) .nil) (.cons (.ret (.cmp .Eq (.fr (.compif [1, 2] (.tup (.cons (.var 1) (.cons (.var 2) .nil))) (.zip (.var 0) (.slc (.var 0) (.at (.int 1)) .no)) (.not (.cmp .Lt (.var 1) (.var 2))) (.int 1))) (.fr (.disp .nil)))) .nil))
def b__law_are_some : Ss := (.cons (.ife (.not (.isi (.var 1) [.tuple])) (.cons (.ret (.bl false)) .nil) .nil) (.cons (.ife (.cmp .NotEq (.fr (.compif [2] (.var 2) (.of (.var 1)) (.bop false (.cons (.not (.isi (.var 2) [.str])) (.cons (.cmp .NotIn (.var 2) (.var 0)) .nil))) (.var 2))) (.fr (.disp .nil))) (.cons (.ret (.bl false)) .nil) .nil) (.cons (.ret (.call "_law_are_rising" (.cons (.var 1) .nil))) .nil)))
def b__law_is_pair : Ss := (.cons (.ife (.bop false (.cons (.not (.isi (.var 1) [.tuple])) (.cons (.cmp .NotEq (.bi .len (.var 1)) (.int 2)) .nil))) (.cons (.ret (.bl false)) .nil) .nil) (.cons (.ife (.bop false (.cons (.not (.call "_law_are_some" (.cons (.var 0) (.cons (.idx (.var 1) (.int 0)) .nil)))) (.cons (.not (.call "_law_are_some" (.cons (.var 0) (.cons (.idx (.var 1) (.int 1)) .nil)))) .nil))) (.cons (.ret (.bl false)) .nil) .nil) (.cons (.ret (.cmp .Eq (.fr (.compif [2] (.var 2) (.of (.idx (.var 1) (.int 0))) (.cmp .In (.var 2) (.idx (.var 1) (.int 1))) (.var 2))) (.fr (.disp .nil)))) .nil)))
def b__law_is_whole : Ss := (.cons (.ret (.bop true (.cons (.isi (.var 0) [.int]) (.cons (.not (.isi (.var 0) [.bool])) (.cons (.cmp2 .LtE .LtE (.var 1) (.var 0) (.var 2)) .nil))))) .nil)
def b__law_truly : Ss := (.cons (.ret (.bop true (.cons (.isi (.var 0) [.bool]) (.cons (.cmp .Eq (.var 0) (.var 1)) .nil)))) .nil)
def b__law_is_place : Ss := (.cons (.ife (.bop false (.cons (.not (.isi (.var 1) [.tuple])) (.cons (.cmp .NotEq (.bi .len (.var 1)) (.int 3)) (.cons (.not (.call "_law_are_some" (.cons (.idx (.var 0) (.int 0)) (.cons (.idx (.var 1) (.int 0)) .nil)))) .nil)))) (.cons (.ret (.bl false)) .nil) .nil) (.cons (.ret (.bop true (.cons (.call "_law_is_whole" (.cons (.idx (.var 1) (.int 1)) (.cons (.int 0) (.cons (.int 3) .nil)))) (.cons (.call "_law_is_whole" (.cons (.idx (.var 1) (.int 2)) (.cons (.int 0) (.cons (.int 3) .nil)))) .nil)))) .nil))
def b__law_are_deeds_1 : Ss := (.cons (.ife (.bop false (.cons (.not (.isi (.var 5) [.tuple])) (.cons (.cmp .NotEq (.bi .len (.var 5)) (.var 3)) (.cons (.not (.call "_law_is_name" (.cons (.idx (.var 5) (.int 0)) .nil))) (.cons (.not (.cmp .Lt (.var 4) (.idx (.var 5) (.int 0)))) .nil))))) (.cons (.ret (.bl false)) .nil) .nil) (.cons (.asg (.var 4) (.idx (.var 5) (.int 0))) (.cons (.ife (.bop true (.cons (.cmp .Eq (.var 3) (.int 3)) (.cons (.bop false (.cons (.not (.call "_law_is_pair" (.cons (.var 0) (.cons (.idx (.var 5) (.int 1)) .nil)))) (.cons (.not (.call "_law_is_pair" (.cons (.var 0) (.cons (.idx (.var 5) (.int 2)) .nil)))) .nil))) .nil))) (.cons (.ret (.bl false)) .nil) .nil) (.cons (.ife (.cmp .Eq (.var 3) (.int 4)) (.cons (.ife (.bop false (.cons (.not (.call "_law_is_whole" (.cons (.idx (.var 5) (.int 1)) (.cons (.int 1) (.cons (.int 1000) .nil))))) (.cons (.not (.call "_law_is_pair" (.cons (.var 0) (.cons (.idx (.var 5) (.int 2)) .nil)))) (.cons (.not (.isi (.idx (.var 5) (.int 3)) [.tuple])) .nil)))) (.cons (.ret (.bl false)) .nil) .nil) (.cons (.ife (.not (.cmp2 .Lt .Lt (.int 0) (.bi .len (.idx (.var 5) (.int 3))) (.int 4))) (.cons (.ret (.bl false)) .nil) .nil) (.cons (.ife (.cmp .NotEq (.fr (.compif [6] (.var 6) (.of (.idx (.var 5) (.int 3))) (.not (.call "_law_is_pair" (.cons (.var 0) (.cons (.var 6) .nil)))) (.var 6))) (.fr (.disp .nil))) (.cons (.ret (.bl false)) .nil) .nil) .nil))) .nil) .nil))))
def b__law_are_deeds : Ss := (.cons (.ife (.bop false (.cons (.not (.isi (.var 1) [.tuple])) (.cons (.cmp .Gt (.bi .len (.var 1)) (.var 2)) .nil))) (.cons (.ret (.bl false)) .nil) .nil) (.cons (.asg (.var 4) (.str "")) (.cons (.for (.var 5) (.of (.var 1)) b__law_are_deeds_1) (.cons (.ret (.bl true)) .nil))))
def b__law_is_world : Ss := (.cons (.ife (.bop false (.cons (.not (.isi (.var 0) [.tuple])) (.cons (.cmp .NotEq (.bi .len (.var 0)) (.int 3)) (.cons (.not (.isi (.idx (.var 0) (.int 0)) [.tuple])) .nil)))) (.cons (.ret (.bl false)) .nil) .nil) (.cons (.ife (.bop false (.cons (.not (.cmp2 .Lt .Lt (.int 0) (.bi .len (.idx (.var 0) (.int 0))) (.int 7))) (.cons (.cmp .NotEq (.fr (.compif [1] (.var 1) (.of (.idx (.var 0) (.int 0))) (.not (.call "_law_is_name" (.cons (.var 1) .nil))) (.var 1))) (.fr (.disp .nil))) .nil))) (.cons (.ret (.bl false)) .nil) .nil) (.cons (.ife (.not (.call "_law_are_rising" (.cons (.idx (.var 0) (.int 0)) .nil))) (.cons (.ret (.bl false)) .nil) .nil) (.cons (.ret (.bop true (.cons (.call "_law_are_deeds" (.cons (.idx (.var 0) (.int 0)) (.cons (.idx (.var 0) (.int 1)) (.cons (.int 8) (.cons (.int 4) .nil))))) (.cons (.call "_law_are_deeds" (.cons (.idx (.var 0) (.int 0)) (.cons (.idx (.var 0) (.int 2)) (.cons (.int 4) (.cons (.int 3) .nil))))) .nil)))) .nil))))
abbrev OK (d : D) : Prop := D.ok 1000 60 d = true
theorem ok_le {b n : Nat} {d : D} (h : D.ok b n d = true) (hb : b ≤ 1000 := by decide) (hn : n ≤ 60 := by decide) : OK d := D.ok.mono hb hn h
section
variable {st : Store} {a b : Int} {k : Bool → Prop}
theorem ci_eq : cmpR st .Eq (.int a) (.int b) k = k (decide (a = b)) := by simp [cmpR, rsv, D.dat, D.eqv]
theorem ci_ne : cmpR st .NotEq (.int a) (.int b) k = k (!decide (a = b)) := by simp [cmpR, rsv, D.dat, D.eqv]
theorem ci_lt : cmpR st .Lt (.int a) (.int b) k = k (decide (a < b)) := by simp [cmpR, D.dat, D.alike, D.lt]
theorem ci_le : cmpR st .LtE (.int a) (.int b) k = k (decide (a ≤ b)) := rfl
theorem ci_gt : cmpR st .Gt (.int a) (.int b) k = k (decide (b < a)) := rfl
theorem ci_ge : cmpR st .GtE (.int a) (.int b) k = k (decide (b ≤ a)) := rfl
end
/-! ### comprehensions under all, any, == [] -/
theorem sz1000 {n : Nat} (h : n ≤ 1000) : n ≤ sizeLine := Nat.le_trans h (by decide)
theorem comp_all {f : D → Store → (Option D → Store → Prop) → Prop} {ds : List D} {st : Store} {P : Post} (g : D → Bool) (hl : ds.length ≤ 1000) (h : ∀ d ∈ ds, ∀ k : Option D → Store → Prop, k (some (.bl (g d))) st → f d st k) (q : P (.bl (ds.all g)) st) :
    turns CT f ds st [] fun xs st2 => biR st2 .all (.lst xs) fun r => P r st2 := by
  refine turns_map (g := fun d => .bl (g d)) ds [] (by simpa using sz1000 hl) h ?_
  refine ⟨_, ds.map g, rfl, by simpa using bools_map g ds, ?_⟩
  simpa [List.all_map, Function.comp] using q
theorem comp_any {f : D → Store → (Option D → Store → Prop) → Prop} {ds : List D} {st : Store} {P : Post} (g : D → Bool) (hl : ds.length ≤ 1000) (h : ∀ d ∈ ds, ∀ k : Option D → Store → Prop, k (some (.bl (g d))) st → f d st k) (q : P (.bl (ds.any g)) st) :
    turns CT f ds st [] fun xs st2 => biR st2 .any (.lst xs) fun r => P r st2 := by
  refine turns_map (g := fun d => .bl (g d)) ds [] (by simpa using sz1000 hl) h ?_
  refine ⟨_, ds.map g, rfl, by simpa using bools_map g ds, ?_⟩
  simpa [List.any_map, Function.comp] using q
theorem eqv_nil (xs : List D) : (D.lst xs).eqv (.lst []) = xs.isEmpty := by
  cases xs <;> simp [D.eqv, D.eqvs]
theorem comp_nil {f : D → Store → (Option D → Store → Prop) → Prop} {ds : List D} {st : Store} {K : Bool → Store → Prop} (c : D → Bool) (g : D → D) (hl : ds.length ≤ 1000) (hg : ∀ d ∈ ds, (g d).dat 59 = true) (h : ∀ d ∈ ds, ∀ k : Option D → Store → Prop, (c d = true → k (some (g d)) st) → (c d = false → k none st) → f d st k) (q : K (!ds.any c) st) :
    turns CT f ds st [] fun xs st2 => cmpR st2 .Eq (.lst xs) (.lst []) fun z => K z st2 := by
  refine turns_filter (c := c) (g := g) ds [] (by simpa using sz1000 hl) h ?_
  refine ⟨?_, ?_, ?_⟩
  · simp only [List.nil_append, rsv, D.dat, dats_iff]
    intro x hx
    obtain ⟨y, hy, rfl⟩ := List.mem_map.mp hx
    exact hg y (List.mem_filter.mp hy).1
  · simp [rsv, D.dat, D.dats]
  · have e : (List.map g (List.filter c ds)).isEmpty = !ds.any c := by
      rw [Bool.eq_iff_iff]
      simp [List.isEmpty_iff, List.filter_eq_nil_iff, List.any_eq_false]
    simpa [rsv, eqv_nil, e] using q
theorem comp_ne {f : D → Store → (Option D → Store → Prop) → Prop} {ds : List D} {st : Store} {K : Bool → Store → Prop} (c : D → Bool) (g : D → D) (hl : ds.length ≤ 1000) (hg : ∀ d ∈ ds, (g d).dat 59 = true) (h : ∀ d ∈ ds, ∀ k : Option D → Store → Prop, (c d = true → k (some (g d)) st) → (c d = false → k none st) → f d st k) (q : K (ds.any c) st) :
    turns CT f ds st [] fun xs st2 => cmpR st2 .NotEq (.lst xs) (.lst []) fun z => K z st2 := by
  have := comp_nil (K := fun z st => K (!z) st) c g hl hg h (by simpa using q)
  exact this
/-! ### the defs -/
section
variable {Γ : Ctx}
def isBetween (x : D) (lo hi : Int) : Bool := match x with | .int i => decide (lo ≤ i) && decide (i ≤ hi) | _ => false
def sp_is_between : Spec := fun ds st P _ => ∃ x lo hi, ds = [x, .int lo, .int hi] ∧ OK x ∧ P (.bl (isBetween x lo hi)) st
theorem d_is_between : Does Γ 3 3 b_is_between sp_is_between := by
  rintro ds st P ⟨x, lo, hi, rfl, hx, hP⟩
  refine ⟨rfl, ?_⟩
  simp [b_is_between, denSs, denS, den, denB, startE, isTys_ok hx, clsB]
  cases x <;> simp [ty1, isBetween, cmpR] at hP ⊢ <;> try exact hP
  rename_i i
  by_cases h : lo ≤ i <;> simp [h] at hP ⊢ <;> exact hP
theorem d__law_is_whole : Does Γ 3 3 b__law_is_whole sp_is_between := d_is_between
def letters : Str := "abcdefghijklmnopqrstuvwxyz"
def isLetter (d : D) : Bool := match d with | .str c => !(Builtin.Str.occurrences letters c 0 letters.length 1).isEmpty | _ => false
def chars (s : Str) : List D := s.cps.toList.map fun c => .str ⟨#[c]⟩
def isName (x : D) : Bool := match x with | .str s => decide (1 ≤ s.length) && decide (s.length ≤ 8) && (chars s).all isLetter | _ => false
def sp_is_name : Spec := fun ds st P _ => ∃ x, ds = [x] ∧ OK x ∧ P (.bl (isName x)) st
theorem chars_len (s : Str) : (chars s).length = s.length := by unfold chars; rw [List.length_map, Array.length_toList]; rfl
theorem d_is_name (hg : Γ.gl "LETTERS" = some (.str letters)) : Does Γ 2 1 b_is_name sp_is_name := by
  rintro ds st P ⟨x, rfl, hx, hP⟩
  refine ⟨rfl, ?_⟩
  simp [b_is_name, denSs, denS, den, denB, denP, denI, startE, isTys_ok hx, clsB, hg]
  cases x <;> simp [ty1, isName] at hP ⊢ <;> try exact hP
  rename_i s
  have hs : s.length ≤ 1000 := (ok_str hx).2
  refine .inr (.inl ⟨s, rfl, sz1000 hs, ?_⟩)
  simp only [cmpR]
  by_cases h1 : 1 ≤ (s.length : Int)
  · have h1' : 1 ≤ s.length := by omega
    by_cases h2 : (s.length : Int) ≤ 8
    · have h2' : s.length ≤ 8 := by omega
      simp [h1, h2, h1', h2'] at hP ⊢
      show turns _ _ (chars s) st [] _
      refine comp_all isLetter (by rw [chars_len]; exact hs) (fun d hd k hk => ?_) hP
      obtain ⟨c, _, rfl⟩ := List.mem_map.mp hd
      simpa [asg, wipeE, cmpR, isLetter] using hk
    · have h2' : ¬ s.length ≤ 8 := by omega
      simp [h1, h2, h1', h2'] at hP ⊢
      exact hP
  · have h1' : ¬ 1 ≤ s.length := by omega
    simp [h1, h1'] at hP ⊢
    exact hP
theorem d__law_is_name : Does Γ 2 1 b__law_is_name sp_is_name := by
  rintro ds st P ⟨x, rfl, hx, hP⟩
  refine ⟨rfl, ?_⟩
  simp [b__law_is_name, denSs, denS, den, denB, denEs, denP, denI, startE, isTys_ok hx, clsB]
  cases x <;> simp [ty1, isName] at hP ⊢ <;> try exact hP
  rename_i s
  have hs : s.length ≤ 1000 := (ok_str hx).2
  have hz : biR st Bi.len (.str s) = fun k => biR st Bi.len (.str s) k := rfl
  refine .inr (.inl ⟨s, rfl, sz1000 hs, ?_⟩)
  simp only [cmpR]
  by_cases h1 : 1 ≤ (s.length : Int)
  · have h1' : 1 ≤ s.length := by omega
    by_cases h2 : (s.length : Int) ≤ 8
    · have h2' : s.length ≤ 8 := by omega
      simp [h1, h2, h1', h2'] at hP ⊢
      show turns _ _ (chars s) st [] _
      refine comp_nil (K := fun z st => P (.bl z) st) (fun d => !isLetter d) id (by rw [chars_len]; exact hs) (fun d hd => ?_) (fun d hd k hk1 hk2 => ?_) ?_
      · obtain ⟨c, hc, rfl⟩ := List.mem_map.mp hd
        have hall := (ok_str hx).1
        simp only [D.dat, PyData.strOk, Array.all_eq_true', decide_eq_true_eq, id] at hall ⊢
        intro y hy
        have e : y = c := by simpa using hy
        rw [e]
        exact hall c (by simpa using hc)
      · obtain ⟨c, _, rfl⟩ := List.mem_map.mp hd
        simp [asg, wipeE, cmpR, isLetter] at hk1 hk2 ⊢
        split
        · exact hk1 ‹_›
        · exact hk2 ‹_›
      · have e : (!(chars s).any fun d => !isLetter d) = (chars s).all isLetter := by
          rw [Bool.eq_iff_iff]; simp
        rw [e]; exact hP
    · have h2' : ¬ s.length ≤ 8 := by omega
      simp [h1, h2, h1', h2'] at hP ⊢
      exact hP
  · have h1' : ¬ 1 ≤ s.length := by omega
    simp [h1, h1'] at hP ⊢
    exact hP
/-! rising -/
def rises : List D → Bool
  | a :: b :: r => a.lt b && rises (b :: r)
  | _ => true
theorem cut1 (xs : List D) : cutD xs (some 1) none = xs.drop 1 := by
  unfold cutD
  show (xs.drop (HT.sIx xs.length 0 (some ((1 : Nat) : Int)))).take (xs.length - HT.sIx xs.length 0 (some ((1 : Nat) : Int))) = _
  rw [HT.sIx_nat]
  cases xs with
  | nil => rfl
  | cons x xs =>
    simp only [List.length_cons, List.drop_succ_cons, List.drop_zero]
    have e : min 1 (xs.length + 1) = 1 := by omega
    rw [e, List.drop_succ_cons, List.drop_zero]
    exact List.take_of_length_le (by omega)
def pairLt (d : D) : Bool := match d with | .pr a b => a.lt b | _ => false
theorem rises_zip : ∀ xs : List D, (zipD xs (xs.drop 1)).all pairLt = rises xs
  | [] => rfl
  | [_] => rfl
  | a :: b :: r => by
    have := rises_zip (b :: r)
    simp only [List.drop_succ_cons, List.drop_zero] at this ⊢
    rw [show zipD (a :: b :: r) (b :: r) = .pr a b :: zipD (b :: r) r from rfl, List.all_cons, this]
    rfl
theorem zip_mem : ∀ {xs ys : List D} {d : D}, d ∈ zipD xs ys → ∃ x y, x ∈ xs ∧ y ∈ ys ∧ d = .pr x y
  | [], _, d, h => by simp [zipD] at h
  | _ :: _, [], d, h => by simp [zipD] at h
  | x :: xs, y :: ys, d, h => by
    rcases List.mem_cons.mp h with rfl | h
    · exact ⟨x, y, List.mem_cons_self, List.mem_cons_self, rfl⟩
    · obtain ⟨a, b, h1, h2, h3⟩ := zip_mem h
      exact ⟨a, b, List.mem_cons_of_mem _ h1, List.mem_cons_of_mem _ h2, h3⟩
/-- items that can be put in order -/
def Sortable (xs : List D) : Prop := xs.length ≤ 1000 ∧ (∀ x ∈ xs, x.dat 58 = true) ∧ ∀ x ∈ xs, ∀ y ∈ xs, x.alike y = true
mutual
theorem D.dat.mono : ∀ {n m : Nat} {d : D}, n ≤ m → d.dat n = true → d.dat m = true
  | _, _, .non, _, _ => by unfold D.dat; rfl
  | _, _, .bl _, _, _ => by unfold D.dat; rfl
  | _, _, .int _, _, _ => by unfold D.dat; rfl
  | _, _, .str x, _, h => by unfold D.dat at h ⊢; exact h
  | 0, _, .tup _, _, h => by simp [D.dat] at h
  | n + 1, 0, .tup _, h', _ => by omega
  | n + 1, m + 1, .tup xs, h', h => by simp only [D.dat] at h ⊢; exact D.dats.mono (by omega) h
  | 0, _, .lst _, _, h => by simp [D.dat] at h
  | n + 1, 0, .lst _, h', _ => by omega
  | n + 1, m + 1, .lst xs, h', h => by simp only [D.dat] at h ⊢; exact D.dats.mono (by omega) h
  | _, _, .dct _, _, h => by simp [D.dat] at h
  | _, _, .ins _ _, _, h => by simp [D.dat] at h
  | _, _, .loc _, _, h => by simp [D.dat] at h
  | _, _, .clo _, _, h => by simp [D.dat] at h
  | _, _, .ro _, _, h => by simp [D.dat] at h
  | _, _, .pr _ _, _, h => by simp [D.dat] at h
theorem D.dats.mono : ∀ {n m : Nat} {d : List D}, n ≤ m → D.dats n d = true → D.dats m d = true
  | _, _, [], _, _ => by unfold D.dats; rfl
  | _, _, x :: xs, h', h => by
    simp only [D.dats, Bool.and_eq_true] at h ⊢
    exact ⟨D.dat.mono h' h.1, D.dats.mono h' h.2⟩
end
def sp_rises : Spec := fun ds st P _ => ∃ x xs, ds = [x] ∧ (x = .tup xs ∨ x = .lst xs) ∧ Sortable xs ∧ P (.bl (rises xs)) st
theorem d_rises : Does Γ 3 1 b_rises sp_rises := by
  rintro ds st P ⟨x, xs, rfl, hx, ⟨hl, hd, ha⟩, hP⟩
  refine ⟨rfl, ?_⟩
  rcases hx with rfl | rfl
  all_goals
    simp [b_rises, denSs, denS, den, denB, denEs, denP, denI, denO, startE, slcR, wipeE]
    rw [cut1]
    refine comp_all pairLt (by rw [zipD_len]; omega) (fun d hm k hk => ?_) (by rw [rises_zip]; exact hP)
    obtain ⟨a, b, h1, h2, rfl⟩ := zip_mem hm
    have h2 := List.mem_of_mem_drop h2
    simp [asg, asgs, cmpR]
    exact ⟨D.dat.mono (by decide) (hd a h1), D.dat.mono (by decide) (hd b h2), ha a h1 b h2, hk⟩
def sp__law_are_rising : Spec := fun ds st P _ => ∃ x, ds = [x] ∧ OK x ∧ (∀ xs, x = .tup xs → Sortable xs) ∧ P (.bl (match x with | .tup xs => rises xs | _ => false)) st
theorem d__law_are_rising : Does Γ 3 1 b__law_are_rising sp__law_are_rising := by
  rintro ds st P ⟨x, rfl, hx, hs, hP⟩
  refine ⟨rfl, ?_⟩
  simp [b__law_are_rising, denSs, denS, den, denB, denEs, denP, denI, denO, startE, slcR, wipeE, isTys_ok hx, clsB]
  cases x <;> simp [ty1] at hP ⊢ <;> try exact hP
  rename_i xs
  obtain ⟨hl, hd, ha⟩ := hs xs rfl
  rw [cut1]
  refine comp_nil (K := fun z st => P (.bl z) st) (fun d => !pairLt d) (fun _ => .int 1) (by rw [zipD_len]; omega) (fun _ _ => rfl) (fun d hm k hk1 hk2 => ?_) ?_
  · obtain ⟨a, b, h1, h2, rfl⟩ := zip_mem hm
    have h2 := List.mem_of_mem_drop h2
    simp [asg, asgs, cmpR]
    refine ⟨D.dat.mono (by decide) (hd a h1), D.dat.mono (by decide) (hd b h2), ha a h1 b h2, ?_⟩
    simp [pairLt] at hk1 hk2
    cases q : a.lt b <;> simp_all
  · have e : (!(zipD xs (xs.drop 1)).any fun d => !pairLt d) = rises xs := by
      rw [← rises_zip, Bool.eq_iff_iff]; simp
    rw [e]; exact hP
/-! facts, pairs -/
theorem alike_strs {xs : List D} (h : ∀ x ∈ xs, ∃ s, x = .str s) : ∀ x ∈ xs, ∀ y ∈ xs, x.alike y = true := fun x hx y hy => by
  obtain ⟨s, rfl⟩ := h x hx
  obtain ⟨t, rfl⟩ := h y hy
  rfl
theorem sortable_strs {xs : List D} (hl : xs.length ≤ 1000) (hk : ∀ x ∈ xs, D.ok 1000 59 x = true) (h : ∀ x ∈ xs, ∃ s, x = .str s) : Sortable xs :=
  ⟨hl, fun x hx => by obtain ⟨s, rfl⟩ := h x hx; exact D.ok.dat (n := 0) (by decide) (by have := hk _ hx; unfold D.ok at this ⊢; exact this), alike_strs h⟩
theorem name_str {x : D} (h : isName x = true) : ∃ s, x = .str s := by
  cases x <;> simp [isName] at h
  exact ⟨_, rfl⟩
def areFacts (x : D) : Bool := match x with | .tup xs => decide (1 ≤ xs.length) && decide (xs.length ≤ 6) && xs.all isName && rises xs | _ => false
def sp_are_facts : Spec := fun ds st P _ => ∃ x, ds = [x] ∧ OK x ∧ P (.bl (areFacts x)) st
theorem d_are_facts (h1 : Γ.fn "is_name" = some sp_is_name) (h2 : Γ.fn "rises" = some sp_rises) : Does Γ 2 1 b_are_facts sp_are_facts := by
  rintro ds st P ⟨x, rfl, hx, hP⟩
  refine ⟨rfl, ?_⟩
  simp [b_are_facts, denSs, denS, den, denB, denEs, denP, denI, denO, startE, wipeE, isTys_ok hx, clsB, h1, h2]
  cases x <;> simp [ty1, areFacts] at hP ⊢ <;> try exact hP
  rename_i xs
  obtain ⟨m, hm, hl, hk⟩ := ok_tup hx
  cases hm
  refine .inl ⟨xs, rfl, ?_⟩
  simp only [ci_le]
  by_cases c1 : 1 ≤ (xs.length : Int)
  · have c1' : 1 ≤ xs.length := by omega
    by_cases c2 : (xs.length : Int) ≤ 6
    · have c2' : xs.length ≤ 6 := by omega
      simp [c1, c2, c1', c2', items1] at hP ⊢
      refine comp_all isName hl (fun d hd k hq => ?_) ?_
      · simp [asg, sp_is_name]
        exact ⟨ok_le (hk d hd), hq⟩
      · cases q : xs.all isName with
        | false => simpa [q] using hP
        | true =>
          simp [q] at hP ⊢
          exact ⟨_, xs, rfl, .inl rfl, sortable_strs hl hk fun x hx => name_str (List.all_eq_true.mp q x hx), by simpa using hP⟩
    · have c2' : ¬ xs.length ≤ 6 := by omega
      simp [c1, c2, c1', c2'] at hP ⊢
      exact hP
  · have c1' : ¬ 1 ≤ xs.length := by omega
    simp [c1, c1'] at hP ⊢
    exact hP
/-- some of the facts, rising -/
def isStr (d : D) : Bool := match d with | .str _ => true | _ => false
def hasD (fs : List D) (x : D) : Bool := fs.any fun f => f.eqv x
def areSome (fs : List D) (x : D) : Bool := match x with | .tup xs => xs.all (fun o => isStr o && hasD fs o) && rises xs | _ => false
def sp_are_some : Spec := fun ds st P _ => ∃ fs x, ds = [.tup fs, x] ∧ OK (.tup fs) ∧ OK x ∧ P (.bl (areSome fs x)) st
theorem ok_dats {xs : List D} (h : ∀ x ∈ xs, D.ok 1000 59 x = true) : D.dats 60 xs = true := dats_iff.mpr fun x hx => D.ok.dat (by decide) (h x hx)
theorem strs_of {fs xs : List D} (h : xs.all (fun o => isStr o && hasD fs o) = true) : ∀ x ∈ xs, ∃ s, x = .str s := fun x hx => by
  have := List.all_eq_true.mp h x hx
  rw [Bool.and_eq_true] at this
  cases x <;> simp [isStr] at this
  exact ⟨_, rfl⟩
theorem d_are_some (h1 : Γ.fn "rises" = some sp_rises) : Does Γ 3 2 b_are_some sp_are_some := by
  rintro ds st P ⟨fs, x, rfl, hf, hx, hP⟩
  refine ⟨rfl, ?_⟩
  obtain ⟨m, hm, hfl, hfk⟩ := ok_tup hf
  cases hm
  simp [b_are_some, denSs, denS, den, denB, denEs, denP, denI, denO, startE, wipeE, isTys_ok hx, clsB, h1]
  cases x <;> simp [ty1, areSome] at hP ⊢ <;> try exact hP
  rename_i xs
  obtain ⟨m, hm, hl, hk⟩ := ok_tup hx
  cases hm
  simp [items1]
  refine comp_all (fun o => isStr o && hasD fs o) hl (fun d hd k hq => ?_) ?_
  · have hd' := ok_le (hk d hd)
    simp [asg, isTys_ok hd', clsB]
    cases d <;> simp [ty1, isStr] at hq ⊢ <;> try exact hq
    refine .inl ⟨fs, rfl, ?_, ok_dats hfk, hq⟩
    exact D.ok.dat (n := 59) (by decide) (hk _ hd)
  · cases q : xs.all (fun o => isStr o && hasD fs o) with
    | false => simpa [q] using hP
    | true =>
      simp [q] at hP ⊢
      exact ⟨_, xs, rfl, .inl rfl, sortable_strs hl hk (strs_of q), by simpa using hP⟩
theorem d__law_are_some (h1 : Γ.fn "_law_are_rising" = some sp__law_are_rising) : Does Γ 3 2 b__law_are_some sp_are_some := by
  rintro ds st P ⟨fs, x, rfl, hf, hx, hP⟩
  refine ⟨rfl, ?_⟩
  obtain ⟨m, hm, hfl, hfk⟩ := ok_tup hf
  cases hm
  simp [b__law_are_some, denSs, denS, den, denB, denEs, denP, denI, denO, startE, wipeE, isTys_ok hx, clsB, h1]
  cases x <;> simp [ty1, areSome] at hP ⊢ <;> try exact hP
  rename_i xs
  obtain ⟨m, hm, hl, hk⟩ := ok_tup hx
  cases hm
  simp [items1]
  refine comp_ne (fun o => !(isStr o && hasD fs o)) id hl (fun d hd => D.ok.dat (n := 59) (by decide) (hk d hd)) (fun d hd k hq1 hq2 => ?_) ?_
  · have hd' := ok_le (hk d hd)
    simp [asg, isTys_ok hd', clsB]
    cases d <;> simp [ty1, isStr] at hq1 hq2 ⊢ <;> try exact hq1
    rename_i s
    refine .inl ⟨fs, rfl, ?_, ok_dats hfk, ?_⟩
    · exact D.ok.dat (n := 59) (by decide) (hk _ hd)
    · cases q : hasD fs (.str s) with
      | false =>
        have q' : (fs.any fun x => x.eqv (.str s)) = false := q
        rw [q']
        simpa using hq1 q
      | true =>
        have q' : (fs.any fun x => x.eqv (.str s)) = true := q
        rw [q']
        simpa using hq2 q
  · have e : (xs.any fun o => !(isStr o && hasD fs o)) = !xs.all fun o => isStr o && hasD fs o := List.not_all_eq_any_not.symm
    rw [e]
    cases q : xs.all (fun o => isStr o && hasD fs o) with
    | false => simpa [q] using hP
    | true =>
      simp [q] at hP ⊢
      exact ⟨_, rfl, hx, fun ys hy => by cases hy; exact sortable_strs hl hk (strs_of q), by simpa using hP⟩
/-- two such, apart -/
def tItems (d : D) : List D := match d with | .tup xs => xs | _ => []
def isPair (fs : List D) (x : D) : Bool := match x with | .tup [a, b] => areSome fs a && areSome fs b && !(tItems a).any (hasD (tItems b)) | _ => false
def sp_is_pair : Spec := fun ds st P _ => ∃ fs x, ds = [.tup fs, x] ∧ OK (.tup fs) ∧ OK x ∧ P (.bl (isPair fs x)) st
theorem some_tup {fs : List D} {x : D} (h : areSome fs x = true) : ∃ xs, x = .tup xs := by
  cases x <;> simp [areSome] at h
  exact ⟨_, rfl⟩
theorem at_nat {xs : List D} {i : Nat} {d : D} (h : xs[i]? = some d) : atI xs (i : Int) = some d := by
  have hl : i < xs.length := (List.getElem?_eq_some_iff.mp h).1
  unfold atI ixN
  rw [if_pos (by omega), if_pos (by omega)]
  simpa using h
theorem at0 {a : D} {r : List D} : atI (a :: r) 0 = some a := at_nat (i := 0) rfl
theorem at1 {a b : D} {r : List D} : atI (a :: b :: r) 1 = some b := at_nat (i := 1) rfl
theorem at2 {a b c : D} {r : List D} : atI (a :: b :: c :: r) 2 = some c := at_nat (i := 2) rfl
theorem at3 {a b c d : D} {r : List D} : atI (a :: b :: c :: d :: r) 3 = some d := at_nat (i := 3) rfl
theorem ix_tupk {st : Store} {xs : List D} {j : Int} {d : D} {k : D → Prop} (h : atI xs j = some d) (q : k d) : idxR st (.tup xs) (.int j) k := .inl ⟨xs, j, d, rfl, rfl, h, q⟩
theorem len_tup {st : Store} {xs : List D} {k : D → Prop} (q : k (.int xs.length)) : biR st .len (.tup xs) k := .inl ⟨xs, rfl, q⟩
theorem d_is_pair (h1 : Γ.fn "are_some" = some sp_are_some) : Does Γ 3 2 b_is_pair sp_is_pair := by
  rintro ds st P ⟨fs, x, rfl, hf, hx, hP⟩
  refine ⟨rfl, ?_⟩
  simp [b_is_pair, denSs, denS, den, denB, denEs, denP, denI, denO, startE, wipeE, isTys_ok hx, clsB, h1]
  cases x <;> simp [ty1, isPair] at hP ⊢ <;> try exact hP
  rename_i xs
  obtain ⟨m, hm, hl, hk⟩ := ok_tup hx
  cases hm
  refine len_tup ?_
  simp only [ci_ne]
  by_cases h2 : (xs.length : Int) = 2
  · obtain ⟨a, b, rfl⟩ : ∃ a b, xs = [a, b] := by
      rcases xs with _ | ⟨a, _ | ⟨b, _ | ⟨c, r⟩⟩⟩ <;> simp at h2
      · exact ⟨a, b, rfl⟩
      · omega
    simp [items1]
    refine comp_all (areSome fs) hl (fun d hd k hq => ?_) ?_
    · simp [asg]
      exact ⟨fs, d, rfl, hf, ok_le (hk d hd), hq⟩
    · cases qa : areSome fs a with
      | false => simpa [qa] using hP
      | true =>
        cases qb : areSome fs b with
        | false => simpa [qa, qb] using hP
        | true =>
          simp [qa, qb] at hP ⊢
          obtain ⟨as, rfl⟩ := some_tup qa
          obtain ⟨bs, rfl⟩ := some_tup qb
          obtain ⟨m, hm, hal, hak⟩ := ok_tup (hk _ List.mem_cons_self)
          cases hm
          obtain ⟨m, hm, hbl, hbk⟩ := ok_tup (hk _ (List.mem_cons_of_mem _ List.mem_cons_self))
          cases hm
          refine ix_tupk at0 ?_
          refine comp_any (hasD bs) hal (fun d hd k hq => ?_) ?_
          · simp [asg]
            refine ix_tupk at1 ?_
            exact .inl ⟨bs, rfl, D.ok.dat (n := 58) (by decide) (hak d hd), dats_iff.mpr fun y hy => D.ok.dat (n := 58) (by decide) (hbk y hy), hq⟩
          · cases q : as.any (hasD bs) <;> simp only [tItems, q] at hP ⊢ <;> simpa using hP
  · simp [h2] at hP ⊢
    rcases xs with _ | ⟨a, _ | ⟨b, _ | ⟨c, r⟩⟩⟩ <;> simp at h2 <;> simpa using hP
theorem d__law_is_pair (h1 : Γ.fn "_law_are_some" = some sp_are_some) : Does Γ 3 2 b__law_is_pair sp_is_pair := by
  rintro ds st P ⟨fs, x, rfl, hf, hx, hP⟩
  refine ⟨rfl, ?_⟩
  simp [b__law_is_pair, denSs, denS, den, denB, denEs, denP, denI, denO, startE, wipeE, isTys_ok hx, clsB, h1]
  cases x <;> simp [ty1, isPair] at hP ⊢ <;> try exact hP
  rename_i xs
  obtain ⟨m, hm, hl, hk⟩ := ok_tup hx
  cases hm
  refine len_tup ?_
  simp only [ci_ne]
  by_cases h2 : (xs.length : Int) = 2
  · obtain ⟨a, b, rfl⟩ : ∃ a b, xs = [a, b] := by
      rcases xs with _ | ⟨a, _ | ⟨b, _ | ⟨c, r⟩⟩⟩ <;> simp at h2
      · exact ⟨a, b, rfl⟩
      · omega
    simp
    refine ix_tupk at0 ?_
    refine ⟨fs, a, rfl, hf, ok_le (hk _ List.mem_cons_self), ?_⟩
    cases qa : areSome fs a with
    | false => simpa [qa] using hP
    | true =>
      simp [qa] at hP ⊢
      refine ix_tupk at1 ?_
      refine ⟨fs, b, rfl, hf, ok_le (hk _ (List.mem_cons_of_mem _ List.mem_cons_self)), ?_⟩
      cases qb : areSome fs b with
      | false => simpa [qa, qb] using hP
      | true =>
        simp [qa, qb] at hP ⊢
        obtain ⟨as, rfl⟩ := some_tup qa
        obtain ⟨bs, rfl⟩ := some_tup qb
        obtain ⟨m, hm, hal, hak⟩ := ok_tup (hk _ List.mem_cons_self)
        cases hm
        obtain ⟨m, hm, hbl, hbk⟩ := ok_tup (hk _ (List.mem_cons_of_mem _ List.mem_cons_self))
        cases hm
        refine ix_tupk at0 ?_
        simp [items1]
        refine comp_nil (K := fun z st => P (.bl z) st) (hasD bs) id hal (fun d hd => D.ok.dat (n := 58) (by decide) (hak d hd)) (fun d hd k hk1 hk2 => ?_) (by simpa [tItems] using hP)
        simp [asg]
        refine ix_tupk at1 ?_
        refine .inl ⟨bs, rfl, D.ok.dat (n := 58) (by decide) (hak d hd), dats_iff.mpr fun y hy => D.ok.dat (n := 58) (by decide) (hbk y hy), ?_⟩
        cases q : hasD bs d with
        | false =>
          have q' : (bs.any fun x => x.eqv d) = false := q
          rw [q']
          simpa using hk2 q
        | true =>
          have q' : (bs.any fun x => x.eqv d) = true := q
          rw [q']
          simpa using hk1 q
  · simp [h2] at hP ⊢
    rcases xs with _ | ⟨a, _ | ⟨b, _ | ⟨c, r⟩⟩⟩ <;> simp at h2 <;> simpa using hP
/-! deeds, meddlers, worlds -/
def isPairs (fs : List D) (x : D) : Bool := match x with | .tup cs => decide (1 ≤ cs.length) && decide (cs.length ≤ 3) && cs.all (isPair fs) | _ => false
def isDeed (fs : List D) (x : D) : Bool := match x with | .tup [n, c, q, chs] => isName n && isBetween c 1 1000 && isPair fs q && isPairs fs chs | _ => false
def isMeddler (fs : List D) (x : D) : Bool := match x with | .tup [n, c, q] => isName n && isPair fs c && isPair fs q | _ => false
def sp_is_deed : Spec := fun ds st P _ => ∃ fs x, ds = [.tup fs, x] ∧ OK (.tup fs) ∧ OK x ∧ P (.bl (isDeed fs x)) st
def sp_is_meddler : Spec := fun ds st P _ => ∃ fs x, ds = [.tup fs, x] ∧ OK (.tup fs) ∧ OK x ∧ P (.bl (isMeddler fs x)) st
theorem lenI {xs : List D} {k : Nat} : ((xs.length : Int) = k) ↔ xs.length = k := by omega
theorem d_is_deed (h1 : Γ.fn "is_name" = some sp_is_name) (h2 : Γ.fn "is_between" = some sp_is_between) (h3 : Γ.fn "is_pair" = some sp_is_pair) : Does Γ 3 2 b_is_deed sp_is_deed := by
  rintro ds st P ⟨fs, x, rfl, hf, hx, hP⟩
  refine ⟨rfl, ?_⟩
  simp [b_is_deed, denSs, denS, den, denB, denEs, denP, denI, denO, startE, wipeE, isTys_ok hx, clsB, h1, h2, h3]
  cases x <;> simp [ty1, isDeed] at hP ⊢ <;> try exact hP
  rename_i xs
  obtain ⟨m, hm, hl, hk⟩ := ok_tup hx
  cases hm
  refine len_tup ?_
  simp only [ci_ne]
  by_cases h4 : (xs.length : Int) = 4
  · obtain ⟨n, c, q, chs, rfl⟩ : ∃ a b c d, xs = [a, b, c, d] := by
      rcases xs with _ | ⟨a, _ | ⟨b, _ | ⟨c, _ | ⟨d, _ | ⟨e, r⟩⟩⟩⟩⟩ <;> simp at h4
      · exact ⟨a, b, c, d, rfl⟩
      · omega
    have kn := ok_le (hk n (by simp))
    have kc := ok_le (hk c (by simp))
    have kq := ok_le (hk q (by simp))
    have kk := ok_le (hk chs (by simp))
    simp
    refine ix_tupk at0 ⟨n, rfl, kn, ?_⟩
    cases qn : isName n with
    | false => simpa [qn] using hP
    | true =>
      simp [qn] at hP ⊢
      refine ix_tupk at1 ⟨c, 1, 1000, rfl, kc, ?_⟩
      cases qc : isBetween c 1 1000 with
      | false => simpa [qc] using hP
      | true =>
        simp [qc] at hP ⊢
        refine ix_tupk at2 ⟨fs, q, rfl, hf, kq, ?_⟩
        cases qq : isPair fs q with
        | false => simpa [qq] using hP
        | true =>
          simp [qq] at hP ⊢
          refine ix_tupk at3 ?_
          rw [isTys_ok kk (by rfl)]
          cases chs <;> simp [ty1, isPairs] at hP ⊢ <;> try exact hP
          rename_i cs
          obtain ⟨m, hm, hcl, hck⟩ := ok_tup (hk (.tup cs) (by simp))
          cases hm
          refine ix_tupk at3 ?_
          refine len_tup ?_
          simp only [ci_le]
          by_cases c1 : 1 ≤ (cs.length : Int)
          · have c1' : 1 ≤ cs.length := by omega
            by_cases c2 : (cs.length : Int) ≤ 3
            · have c2' : cs.length ≤ 3 := by omega
              simp [c1, c2, c1', c2', items1] at hP ⊢
              refine ix_tupk at3 ?_
              refine comp_all (isPair fs) hcl (fun d hd k hq => ?_) (by simpa using hP)
              simp [asg]
              exact ⟨fs, d, rfl, hf, ok_le (hck d hd), hq⟩
            · have c2' : ¬ cs.length ≤ 3 := by omega
              simp [c1, c2, c1', c2'] at hP ⊢
              exact hP
          · have c1' : ¬ 1 ≤ cs.length := by omega
            simp [c1, c1'] at hP ⊢
            exact hP
  · simp [h4] at hP ⊢
    rcases xs with _ | ⟨a, _ | ⟨b, _ | ⟨c, _ | ⟨d, _ | ⟨e, r⟩⟩⟩⟩⟩ <;> simp at h4 <;> simpa using hP
theorem three {xs : List D} (h : (xs.length : Int) = 3) : ∃ a b c, xs = [a, b, c] := by
  rcases xs with _ | ⟨a, _ | ⟨b, _ | ⟨c, _ | ⟨d, r⟩⟩⟩⟩ <;> simp at h
  · exact ⟨a, b, c, rfl⟩
  · omega
theorem d_is_meddler (h1 : Γ.fn "is_name" = some sp_is_name) (h3 : Γ.fn "is_pair" = some sp_is_pair) : Does Γ 2 2 b_is_meddler sp_is_meddler := by
  rintro ds st P ⟨fs, x, rfl, hf, hx, hP⟩
  refine ⟨rfl, ?_⟩
  simp [b_is_meddler, denSs, denS, den, denB, denEs, denP, denI, denO, startE, wipeE, isTys_ok hx, clsB, h1, h3]
  cases x <;> simp [ty1, isMeddler] at hP ⊢ <;> try exact hP
  rename_i xs
  obtain ⟨m, hm, hl, hk⟩ := ok_tup hx
  cases hm
  refine len_tup ?_
  simp only [ci_ne]
  by_cases h4 : (xs.length : Int) = 3
  · obtain ⟨n, c, q, rfl⟩ := three h4
    have kn := ok_le (hk n (by simp))
    have kc := ok_le (hk c (by simp))
    have kq := ok_le (hk q (by simp))
    simp
    refine ix_tupk at0 ⟨n, rfl, kn, ?_⟩
    cases qn : isName n with
    | false => simpa [qn] using hP
    | true =>
      simp [qn] at hP ⊢
      refine ix_tupk at1 ⟨fs, c, rfl, hf, kc, ?_⟩
      cases qc : isPair fs c with
      | false => simpa [qc] using hP
      | true =>
        simp [qc] at hP ⊢
        exact ix_tupk at2 ⟨fs, q, rfl, hf, kq, hP⟩
  · simp [h4] at hP ⊢
    rcases xs with _ | ⟨a, _ | ⟨b, _ | ⟨c, _ | ⟨d, r⟩⟩⟩⟩ <;> simp at h4 <;> simpa using hP
def first (d : D) : D := match d with | .tup (a :: _) => a | _ => .non
/-- each begins with a text -/
def Headed (xs : List D) : Prop := ∀ y ∈ xs, ∃ s r, y = .tup (.str s :: r)
theorem first_sort {xs : List D} (hl : xs.length ≤ 1000) (hk : ∀ x ∈ xs, D.ok 1000 59 x = true) (h : Headed xs) : Sortable (xs.map first) := by
  refine ⟨by simpa using hl, fun x hx => ?_, alike_strs fun x hx => ?_⟩
  · obtain ⟨y, hy, rfl⟩ := List.mem_map.mp hx
    obtain ⟨s, r, rfl⟩ := h y hy
    obtain ⟨m, hm, _, hh⟩ := ok_tup (hk _ hy)
    cases hm
    exact D.ok.dat (n := 58) (by decide) (hh _ List.mem_cons_self)
  · obtain ⟨y, hy, rfl⟩ := List.mem_map.mp hx
    obtain ⟨s, r, rfl⟩ := h y hy
    exact ⟨s, rfl⟩
def areNamed (x : D) (most : Int) : Bool := match x with | .tup xs => decide ((xs.length : Int) ≤ most) && rises (xs.map first) | _ => false
def sp_are_named : Spec := fun ds st P _ => ∃ x most, ds = [x, .int most] ∧ OK x ∧ (∀ xs, x = .tup xs → Headed xs) ∧ P (.bl (areNamed x most)) st
theorem d_are_named (h1 : Γ.fn "rises" = some sp_rises) : Does Γ 3 2 b_are_named sp_are_named := by
  rintro ds st P ⟨x, most, rfl, hx, hh, hP⟩
  refine ⟨rfl, ?_⟩
  simp [b_are_named, denSs, denS, den, denB, denEs, denP, denI, denO, startE, wipeE, isTys_ok hx, clsB, h1]
  cases x <;> simp [ty1, areNamed] at hP ⊢ <;> try exact hP
  rename_i xs
  obtain ⟨m, hm, hl, hk⟩ := ok_tup hx
  cases hm
  have hh := hh xs rfl
  refine len_tup ?_
  simp only [ci_le]
  by_cases h2 : (xs.length : Int) ≤ most
  · simp [h2, items1] at hP ⊢
    refine turns_map (g := first) xs [] (by simpa using sz1000 hl) (fun d hd k hq => ?_) ?_
    · obtain ⟨s, r, rfl⟩ := hh d hd
      simp [asg]
      exact ix_tupk at0 hq
    · exact ⟨_, _, rfl, .inr rfl, by simpa using first_sort hl hk hh, by simpa using hP⟩
  · simp [h2] at hP ⊢
    exact hP
def isTup (d : D) : Bool := match d with | .tup _ => true | _ => false
def isWorld (x : D) : Bool := match x with
  | .tup [f, d, m] => areFacts f && (isTup d && (tItems d).all (isDeed (tItems f))) && (isTup m && (tItems m).all (isMeddler (tItems f))) && areNamed d 8 && areNamed m 4
  | _ => false
def sp_is_world : Spec := fun ds st P _ => ∃ x, ds = [x] ∧ OK x ∧ P (.bl (isWorld x)) st
theorem deed_head {fs : List D} {d : D} (h : isDeed fs d = true) : ∃ s r, d = .tup (.str s :: r) := by
  unfold isDeed at h
  split at h
  · simp only [Bool.and_eq_true] at h
    obtain ⟨s, rfl⟩ := name_str h.1.1.1
    exact ⟨s, _, rfl⟩
  · cases h
theorem meddler_head {fs : List D} {d : D} (h : isMeddler fs d = true) : ∃ s r, d = .tup (.str s :: r) := by
  unfold isMeddler at h
  split at h
  · simp only [Bool.and_eq_true] at h
    obtain ⟨s, rfl⟩ := name_str h.1.1
    exact ⟨s, _, rfl⟩
  · cases h
theorem facts_tup {x : D} (h : areFacts x = true) : ∃ xs, x = .tup xs := by
  cases x <;> simp [areFacts] at h
  exact ⟨_, rfl⟩
theorem d_is_world (h1 : Γ.fn "are_facts" = some sp_are_facts) (h2 : Γ.fn "is_deed" = some sp_is_deed) (h3 : Γ.fn "is_meddler" = some sp_is_meddler) (h4 : Γ.fn "are_named" = some sp_are_named) : Does Γ 6 1 b_is_world sp_is_world := by
  rintro ds st P ⟨x, rfl, hx, hP⟩
  refine ⟨rfl, ?_⟩
  simp [b_is_world, denSs, denS, den, denB, denEs, denP, denI, denO, startE, wipeE, isTys_ok hx, clsB, h1, h2, h3, h4]
  cases x <;> simp [ty1, isWorld] at hP ⊢ <;> try exact hP
  rename_i xs
  obtain ⟨m, hm, hl, hk⟩ := ok_tup hx
  cases hm
  refine len_tup ?_
  simp only [ci_ne]
  by_cases h5 : (xs.length : Int) = 3
  · obtain ⟨f, d, m, rfl⟩ := three h5
    have kf := ok_le (hk f (by simp))
    have kd := ok_le (hk d (by simp))
    have km := ok_le (hk m (by simp))
    simp
    refine ix_tupk at0 ⟨f, rfl, kf, ?_⟩
    cases qf : areFacts f with
    | false => simpa [qf] using hP
    | true =>
      obtain ⟨fs, rfl⟩ := facts_tup qf
      simp [qf, asg, asgs] at hP ⊢
      rw [isTys_ok kd (by rfl)]
      cases d <;> simp [ty1, isTup] at hP ⊢ <;> try exact hP
      rename_i xd
      obtain ⟨_, hm, hdl, hdk⟩ := ok_tup (hk (.tup xd) (by simp))
      cases hm
      simp [items1, tItems] at hP ⊢
      refine comp_all (isDeed fs) hdl (fun d hd k hq => ?_) ?_
      · try simp [asg]
        exact ⟨fs, d, rfl, kf, ok_le (hdk d hd), hq⟩
      · cases qd : xd.all (isDeed fs) with
        | false => simpa [qd] using hP
        | true =>
          simp [qd] at hP ⊢
          rw [isTys_ok km (by rfl)]
          cases m <;> simp [ty1] at hP ⊢ <;> try exact hP
          rename_i xm
          obtain ⟨_, hm, hml, hmk⟩ := ok_tup (hk (.tup xm) (by simp))
          cases hm
          refine comp_all (isMeddler fs) hml (fun d hd k hq => ?_) ?_
          · try simp [asg]
            exact ⟨fs, d, rfl, kf, ok_le (hmk d hd), hq⟩
          · cases qm : xm.all (isMeddler fs) with
            | false => simpa [qm] using hP
            | true =>
              simp [qm] at hP ⊢
              refine ⟨_, _, rfl, kd, fun ys e y hy => ?_, ?_⟩
              · cases e; exact deed_head (List.all_eq_true.mp qd y hy)
              · cases qn : areNamed (.tup xd) 8 with
                | false => simpa [qn] using hP
                | true =>
                  simp [qn] at hP ⊢
                  refine ⟨_, _, rfl, km, fun ys e y hy => ?_, hP⟩
                  cases e; exact meddler_head (List.all_eq_true.mp qm y hy)
  · simp [h5] at hP ⊢
    rcases xs with _ | ⟨a, _ | ⟨b, _ | ⟨c, _ | ⟨d, r⟩⟩⟩⟩ <;> simp at h5 <;> simpa using hP
/-! states, conditions, places; the law's own judging -/
theorem areSome_dup {fs : List D} {x : D} : True := trivial
def wFacts (w : D) : List D := match w with | .tup (f :: _) => tItems f | _ => []
/-- a world as far as these look -/
def HasFacts (w : D) : Prop := ∃ fs r, w = .tup (.tup fs :: r) ∧ OK (.tup fs)
def sp_is_state : Spec := fun ds st P _ => ∃ w x, ds = [w, x] ∧ HasFacts w ∧ OK x ∧ P (.bl (areSome (wFacts w) x)) st
def sp_is_condition : Spec := fun ds st P _ => ∃ w x, ds = [w, x] ∧ HasFacts w ∧ OK x ∧ P (.bl (isPair (wFacts w) x)) st
theorem d_is_state (h1 : Γ.fn "are_some" = some sp_are_some) : Does Γ 2 2 b_is_state sp_is_state := by
  rintro ds st P ⟨w, x, rfl, ⟨fs, r, rfl, hf⟩, hx, hP⟩
  refine ⟨rfl, ?_⟩
  simp [b_is_state, denSs, denS, den, denEs, startE, h1]
  exact ix_tupk at0 ⟨fs, x, rfl, hf, hx, hP⟩
theorem d_is_condition (h1 : Γ.fn "is_pair" = some sp_is_pair) : Does Γ 2 2 b_is_condition sp_is_condition := by
  rintro ds st P ⟨w, x, rfl, ⟨fs, r, rfl, hf⟩, hx, hP⟩
  refine ⟨rfl, ?_⟩
  simp [b_is_condition, denSs, denS, den, denEs, startE, h1]
  exact ix_tupk at0 ⟨fs, x, rfl, hf, hx, hP⟩
def isPlace (fs : List D) (x : D) : Bool := match x with | .tup [s, a, b] => areSome fs s && isBetween a 0 3 && isBetween b 0 3 | _ => false
def sp_is_place : Spec := fun ds st P _ => ∃ w x, ds = [w, x] ∧ HasFacts w ∧ OK x ∧ P (.bl (isPlace (wFacts w) x)) st
theorem d_is_place (hg : Γ.gl "MOST" = some (.int 3)) (h1 : Γ.fn "is_state" = some sp_is_state) (h2 : Γ.fn "is_between" = some sp_is_between) : Does Γ 2 2 b_is_place sp_is_place := by
  rintro ds st P ⟨w, x, rfl, hw, hx, hP⟩
  refine ⟨rfl, ?_⟩
  simp [b_is_place, denSs, denS, den, denB, denEs, startE, isTys_ok hx, clsB, h1, h2, hg]
  cases x <;> simp [ty1, isPlace] at hP ⊢ <;> try exact hP
  rename_i xs
  obtain ⟨m, hm, hl, hk⟩ := ok_tup hx
  cases hm
  refine len_tup ?_
  simp only [ci_ne]
  by_cases h5 : (xs.length : Int) = 3
  · obtain ⟨s, a, b, rfl⟩ := three h5
    simp
    refine ix_tupk at0 ⟨w, s, rfl, hw, ok_le (hk s (by simp)), ?_⟩
    cases qs : areSome (wFacts w) s with
    | false => simpa [qs] using hP
    | true =>
      simp [qs] at hP ⊢
      refine ix_tupk at1 ⟨a, 0, 3, rfl, ok_le (hk a (by simp)), ?_⟩
      cases qa : isBetween a 0 3 with
      | false => simpa [qa] using hP
      | true =>
        simp [qa] at hP ⊢
        exact ix_tupk at2 ⟨b, 0, 3, rfl, ok_le (hk b (by simp)), hP⟩
  · simp [h5] at hP ⊢
    rcases xs with _ | ⟨a, _ | ⟨b, _ | ⟨c, _ | ⟨d, r⟩⟩⟩⟩ <;> simp at h5 <;> simpa using hP
theorem d__law_is_place (h1 : Γ.fn "_law_are_some" = some sp_are_some) (h2 : Γ.fn "_law_is_whole" = some sp_is_between) : Does Γ 2 2 b__law_is_place sp_is_place := by
  rintro ds st P ⟨w, x, rfl, ⟨fs, r, rfl, hf⟩, hx, hP⟩
  refine ⟨rfl, ?_⟩
  simp [b__law_is_place, denSs, denS, den, denB, denEs, startE, isTys_ok hx, clsB, h1, h2]
  cases x <;> simp [ty1, isPlace] at hP ⊢ <;> try exact hP
  rename_i xs
  obtain ⟨m, hm, hl, hk⟩ := ok_tup hx
  cases hm
  refine len_tup ?_
  simp only [ci_ne]
  by_cases h5 : (xs.length : Int) = 3
  · obtain ⟨s, a, b, rfl⟩ := three h5
    simp
    refine ix_tupk at0 (ix_tupk at0 ⟨fs, s, rfl, hf, ok_le (hk s (by simp)), ?_⟩)
    cases qs : areSome fs s with
    | false => simpa [qs, wFacts, tItems] using hP
    | true =>
      simp [qs, wFacts, tItems] at hP ⊢
      refine ix_tupk at1 ⟨a, 0, 3, rfl, ok_le (hk a (by simp)), ?_⟩
      cases qa : isBetween a 0 3 with
      | false => simpa [qa] using hP
      | true =>
        simp [qa] at hP ⊢
        exact ix_tupk at2 ⟨b, 0, 3, rfl, ok_le (hk b (by simp)), hP⟩
  · simp [h5] at hP ⊢
    rcases xs with _ | ⟨a, _ | ⟨b, _ | ⟨c, _ | ⟨d, r⟩⟩⟩⟩ <;> simp at h5 <;> simpa using hP
def sp__law_truly : Spec := fun ds st P _ => ∃ a b : Bool, ds = [.bl a, .bl b] ∧ P (.bl (a == b)) st
theorem d__law_truly : Does Γ 2 2 b__law_truly sp__law_truly := by
  rintro ds st P ⟨a, b, rfl, hP⟩
  refine ⟨rfl, ?_⟩
  simp [b__law_truly, denSs, denS, den, denB, startE, rsv, isTys, isTy, cmpR, D.dat, D.eqv]
  simpa using hP
/-- the deeds, or the meddlers, as the law judges them -/
def okD (fs : List D) (long : Int) (d : D) : Bool := if long = 4 then isDeed fs d else isMeddler fs d
def areDeeds (fs : List D) (x : D) (most long : Int) : Bool := match x with | .tup xs => decide ((xs.length : Int) ≤ most) && xs.all (okD fs long) && rises (xs.map first) | _ => false
def sp__law_are_deeds : Spec := fun ds st P _ => ∃ fs x most long, ds = [.tup fs, x, .int most, .int long] ∧ OK (.tup fs) ∧ OK x ∧ (long = 3 ∨ long = 4) ∧ P (.bl (areDeeds fs x most long)) st
theorem empty_lt {s : Str} (h : 1 ≤ s.length) : (D.str "").lt (.str s) = true := by
  simp only [D.lt, decide_eq_true_eq]
  obtain ⟨⟨l⟩⟩ := s
  cases l with
  | nil => exact absurd h (by decide)
  | cons c l => exact List.Lex.nil
theorem rises_empty {fs : List D} {long : Int} (hl : long = 3 ∨ long = 4) : ∀ {xs : List D}, xs.all (okD fs long) = true → rises (.str "" :: xs.map first) = rises (xs.map first)
  | [], _ => rfl
  | x :: xs, h => by
    simp only [List.all_cons, Bool.and_eq_true] at h
    have : ∃ s r, x = .tup (.str s :: r) ∧ 1 ≤ s.length := by
      have h := h.1
      unfold okD at h
      split at h
      · unfold isDeed at h
        split at h
        · simp only [Bool.and_eq_true] at h
          obtain ⟨s, rfl⟩ := name_str h.1.1.1
          have h := h.1.1.1
          simp [isName] at h
          exact ⟨s, _, rfl, by omega⟩
        · cases h
      · unfold isMeddler at h
        split at h
        · simp only [Bool.and_eq_true] at h
          obtain ⟨s, rfl⟩ := name_str h.1.1
          have h := h.1.1
          simp [isName] at h
          exact ⟨s, _, rfl, by omega⟩
        · cases h
    obtain ⟨s, r, rfl, hs⟩ := this
    show ((D.str "").lt (.str s) && rises (.str s :: xs.map first)) = rises (.str s :: xs.map first)
    rw [empty_lt hs, Bool.true_and]
end
end G
/-! What the law's own defs give. -/
namespace G
open PySem PySem.Spec PyProof.Rows L2
/-- what an expression gives, nothing changed -/
abbrev Ev (Γ : Ctx) (ρ : Env) (st : Store) (e : E) (d : D) : Prop := ∀ Q : Post, Q d st → den Γ X0 e ρ st Q
section
variable {Γ : Ctx} {ρ : Env} {st : Store}
theorem ife_ev {c : E} {a b : Ss} {K : Kn} (t : Bool) (hc : Ev Γ ρ st c (.bl t)) (h : if t = true then denSs Γ X0 a K ρ st else denSs Γ X0 b K ρ st) : denS Γ X0 (.ife c a b) K ρ st := by
  rw [denS]
  exact hc _ ⟨t, rfl, h⟩
theorem cons_ife {c : E} {a b ss : Ss} {K : Kn} (t : Bool) (hc : Ev Γ ρ st c (.bl t)) (h : if t = true then denSs Γ X0 a { K with nx := fun ρ1 st1 => denSs Γ X0 ss K ρ1 st1 } ρ st else denSs Γ X0 b { K with nx := fun ρ1 st1 => denSs Γ X0 ss K ρ1 st1 } ρ st) : denSs Γ X0 (.cons (.ife c a b) ss) K ρ st := by
  rw [denSs]
  exact ife_ev t hc h
theorem cons_asg {i : Nat} {e : E} {ss : Ss} {K : Kn} (d : D) (he : Ev Γ ρ st e d) (h : denSs Γ X0 ss K (ρ.set i (some d)) st) : denSs Γ X0 (.cons (.asg (.var i) e) ss) K ρ st := by
  rw [denSs, denS]
  exact he _ (by simpa [asg] using h)
theorem cons_ret {e : E} {ss : Ss} {K : Kn} (d : D) (he : Ev Γ ρ st e d) (h : K.rt d st) : denSs Γ X0 (.cons (.ret e) ss) K ρ st := by
  rw [denSs, denS]
  exact he _ h
def okHead (long : Int) (last : Str) (y : D) : Bool := match y with | .tup (n :: r) => decide (((n :: r).length : Int) = long) && isName n && (D.str last).lt n | _ => false
theorem okd_split {fs : List D} {long : Int} (hl : long = 3 ∨ long = 4) (y : D) (last : Str) : (okD fs long y && (D.str last).lt (first y)) = (okHead long last y && okD fs long y) := by
  rcases hl with rfl | rfl
  · cases y <;> try rfl
    rename_i xs
    rcases xs with _ | ⟨a, _ | ⟨b, _ | ⟨c, _ | ⟨d, _ | ⟨e, r⟩⟩⟩⟩⟩ <;> try rfl
    all_goals simp [okD, isMeddler, first, okHead]
    all_goals try omega
    cases isName a <;> cases (D.str last).lt a <;> simp
  · cases y <;> try rfl
    rename_i xs
    rcases xs with _ | ⟨a, _ | ⟨b, _ | ⟨c, _ | ⟨d, _ | ⟨e, r⟩⟩⟩⟩⟩ <;> try rfl
    all_goals simp [okD, isDeed, first, okHead]
    all_goals try omega
    cases isName a <;> cases (D.str last).lt a <;> simp
theorem test1 (h1 : Γ.fn "_law_is_name" = some sp_is_name) {a b c o : Option D} {long : Int} {last : Str} {y : D} (hlong : long = 3 ∨ long = 4) (hs : PyData.strOk last = true) (hy : D.ok 1000 59 y = true) :
    Ev Γ [a, b, c, some (.int long), some (.str last), some y, o] st
      (.bop false (.cons (.not (.isi (.var 5) [.tuple])) (.cons (.cmp .NotEq (.bi .len (.var 5)) (.var 3)) (.cons (.not (.call "_law_is_name" (.cons (.idx (.var 5) (.int 0)) .nil))) (.cons (.not (.cmp .Lt (.var 4) (.idx (.var 5) (.int 0)))) .nil)))))
      (.bl (!okHead long last y)) := by
  intro Q hQ
  have ky := ok_le hy
  simp [den, denB, denEs, isTys_ok ky, clsB, h1]
  cases y <;> simp [ty1] at hQ ⊢ <;> try exact hQ
  rename_i xs
  obtain ⟨m, hm, hl, hk⟩ := ok_tup hy
  cases hm
  refine len_tup ?_
  rw [ci_ne]
  by_cases hlen : (xs.length : Int) = long
  · cases xs with
    | nil =>
      simp at hlen
      omega
    | cons n r =>
      have kn := ok_le (hk n List.mem_cons_self)
      have e : okHead long last (.tup (n :: r)) = (isName n && (D.str last).lt n) := by simp only [okHead, hlen, decide_true, Bool.true_and]
      rw [e] at hQ
      simp only [hlen, decide_true, Bool.not_true, Bool.false_eq_true, if_false]
      refine ix_tupk at0 ⟨n, rfl, kn, ?_⟩
      cases qn : isName n with
      | false => simpa [qn] using hQ
      | true =>
        obtain ⟨s, rfl⟩ := name_str qn
        rw [qn, Bool.true_and] at hQ
        simp
        refine ix_tupk at0 ?_
        refine ⟨by unfold D.dat; exact hs, D.ok.dat (n := 58) (by decide) (hk _ List.mem_cons_self), rfl, ?_⟩
        exact hQ
  · have e : okHead long last (.tup xs) = false := by
      cases xs with
      | nil => rfl
      | cons n r => simp only [okHead, hlen, decide_false, Bool.false_and]
    rw [e] at hQ
    simpa [hlen] using hQ
/-- the rest of such a deed, its head looked at -/
def okRest (fs : List D) (long : Int) (y : D) : Bool := match y with
  | .tup [_, c, q] => decide (long = 3) && isPair fs c && isPair fs q
  | .tup [_, c, q, chs] => decide (long = 4) && isBetween c 1 1000 && isPair fs q && isPairs fs chs
  | _ => false
theorem head_rest {fs : List D} {long : Int} {last : Str} {y : D} (hl : long = 3 ∨ long = 4) (h : okHead long last y = true) : okD fs long y = okRest fs long y := by
  unfold okHead at h
  split at h
  · rename_i n r
    simp only [Bool.and_eq_true, decide_eq_true_eq] at h
    rcases hl with rfl | rfl
    · rcases r with _ | ⟨b, _ | ⟨c, _ | ⟨d, r⟩⟩⟩ <;> simp at h <;> try omega
      simp [okD, isMeddler, okRest, h.1]
    · rcases r with _ | ⟨b, _ | ⟨c, _ | ⟨d, _ | ⟨e, r⟩⟩⟩⟩ <;> simp at h <;> try omega
      simp [okD, isDeed, okRest, h.1]
  · cases h
/-- a statement that may fall through: with this the next ones -/
theorem rest3 (h2 : Γ.fn "_law_is_pair" = some sp_is_pair) {fs : List D} {b c o6 : Option D} {last : Option D} {y : D} (hf : OK (.tup fs)) (hy : D.ok 1000 59 y = true) {last0 : Str} (hd : okHead 3 last0 y = true) :
    Ev Γ [some (.tup fs), b, c, some (.int 3), last, some y, o6] st
      (.bop true (.cons (.cmp .Eq (.var 3) (.int 3)) (.cons (.bop false (.cons (.not (.call "_law_is_pair" (.cons (.var 0) (.cons (.idx (.var 5) (.int 1)) .nil)))) (.cons (.not (.call "_law_is_pair" (.cons (.var 0) (.cons (.idx (.var 5) (.int 2)) .nil)))) .nil))) .nil)))
      (.bl (!okRest fs 3 y)) := by
  intro Q hQ
  unfold okHead at hd
  split at hd
  · rename_i n r
    simp only [Bool.and_eq_true, decide_eq_true_eq] at hd
    obtain ⟨n', c', q', e⟩ := three hd.1.1
    cases e
    obtain ⟨m, hm, hl, hk⟩ := ok_tup hy
    cases hm
    simp [den, denB, denEs, ci_eq, h2, okRest] at hQ ⊢
    refine ix_tupk at1 ⟨fs, c', rfl, hf, ok_le (hk c' (by simp)), ?_⟩
    cases qc : isPair fs c' with
    | false => simpa [qc] using hQ
    | true =>
      simp [qc] at hQ ⊢
      exact ix_tupk at2 ⟨fs, q', rfl, hf, ok_le (hk q' (by simp)), by cases q3 : isPair fs q' <;> simpa [q3] using hQ⟩
  · cases hd
theorem d__law_are_deeds (h1 : Γ.fn "_law_is_name" = some sp_is_name) (h2 : Γ.fn "_law_is_pair" = some sp_is_pair) (h3 : Γ.fn "_law_is_whole" = some sp_is_between) : Does Γ 7 4 b__law_are_deeds sp__law_are_deeds := by
  rintro ds st P ⟨fs, x, most, long, rfl, hf, hx, hlong, hP⟩
  refine ⟨rfl, ?_⟩
  unfold b__law_are_deeds
  have t0 : Ev Γ (startE 7 [.tup fs, x, .int most, .int long]) st (.bop false (.cons (.not (.isi (.var 1) [.tuple])) (.cons (.cmp .Gt (.bi .len (.var 1)) (.var 2)) .nil))) (.bl (match x with | .tup xs => decide (most < (xs.length : Int)) | _ => true)) := by
    intro Q hQ
    simp [den, denB, startE, isTys_ok hx, clsB]
    cases x <;> simp [ty1] at hQ ⊢ <;> try exact hQ
    exact len_tup hQ
  refine cons_ife _ t0 ?_
  cases x <;> try (simp [denSs, denS, den, areDeeds] at hP ⊢; exact hP)
  rename_i xs
  obtain ⟨m, hm, hl, hk⟩ := ok_tup hx
  cases hm
  simp only [areDeeds] at hP ⊢
  by_cases hc : most < (xs.length : Int)
  · have hc' : ¬ (xs.length : Int) ≤ most := by omega
    simp [hc, hc', denSs, denS, den] at hP ⊢
    exact hP
  · have hc' : (xs.length : Int) ≤ most := by omega
    simp only [hc, hc', decide_false, decide_true, Bool.false_eq_true, if_false, Bool.true_and] at hP ⊢
    rw [denSs]
    refine cons_asg (i := 4) (e := .str "") (.str "") (fun Q h => by rw [den]; exact h) ?_
    rw [denSs, denS]
    simp [denI, den, startE, items1]
    have hlet : PyData.strOk "" = true := by decide +kernel
    have hP : P (.bl (xs.all (okD fs long) && rises (.str "" :: xs.map first))) st := by
      cases q : xs.all (okD fs long) with
      | false => simpa [q] using hP
      | true => rw [rises_empty hlong q]; simpa [q] using hP
    have main : ∀ (ys : List D) (last : Str) (o5 o6 : Option D), PyData.strOk last = true → (∀ y ∈ ys, D.ok 1000 59 y = true) → P (.bl (ys.all (okD fs long) && rises (.str last :: ys.map first))) st →
        forL (Pt.var 5) (fun ρ st K => denSs Γ X0 b__law_are_deeds_1 K ρ st) { nx := fun ρ1 st1 => denSs Γ X0 (Ss.cons (S.ret (E.bl true)) Ss.nil) { nx := fun x st => P D.non st, rt := P } ρ1 st1, rt := P } CT ys
          [some (D.tup fs), some (D.tup xs), some (D.int most), some (D.int long), some (D.str last), o5, o6] st := by
      intro ys
      induction ys with
      | nil =>
        intro last o5 o6 hs hk hP
        simpa [forL, denSs, denS, den, rises, CT] using hP
      | cons y ys ih =>
        intro last o5 o6 hs hk hP
        have hy := hk y List.mem_cons_self
        unfold forL
        refine ⟨trivial, ?_⟩
        simp only [asg, List.set]
        have split1 : ((y :: ys).all (okD fs long) && rises (.str last :: (y :: ys).map first)) = (okHead long last y && (okD fs long y && (ys.all (okD fs long) && rises (first y :: ys.map first)))) := by
          have e : rises (.str last :: (y :: ys).map first) = ((D.str last).lt (first y) && rises (first y :: ys.map first)) := rfl
          rw [e, List.all_cons]
          have := okd_split (fs := fs) hlong y last
          cases q1 : okD fs long y <;> cases q2 : (D.str last).lt (first y) <;> cases q3 : okHead long last y <;> simp [q1, q2, q3] at this ⊢
        rw [split1] at hP
        unfold b__law_are_deeds_1
        refine cons_ife _ (test1 h1 hlong hs hy) ?_
        cases qh : okHead long last y with
        | false => simpa [qh, denSs, denS, den] using hP
        | true =>
          simp only [qh, Bool.not_true, Bool.false_eq_true, if_false, Bool.true_and] at hP ⊢
          rw [head_rest hlong qh] at hP
          obtain ⟨s, r, rfl, hs2⟩ : ∃ s r, y = .tup (.str s :: r) ∧ PyData.strOk s = true := by
            unfold okHead at qh
            split at qh
            · simp only [Bool.and_eq_true] at qh
              obtain ⟨s, rfl⟩ := name_str qh.1.2
              obtain ⟨m, hm, _, hh⟩ := ok_tup hy
              cases hm
              exact ⟨s, _, rfl, (ok_str (hh _ List.mem_cons_self)).1⟩
            · cases qh
          rw [denSs]
          refine cons_asg (.str s) (fun Q h => by
            simp only [den]
            exact ix_tupk at0 h) ?_
          simp only [List.set]
          have ih' := fun h => ih s (some (.tup (.str s :: r))) o6 hs2 (fun z hz => hk z (List.mem_cons_of_mem _ hz)) h
          rcases hlong with rfl | rfl
          · refine cons_ife _ (rest3 h2 hf hy qh) ?_
            cases qr : okRest fs 3 (.tup (.str s :: r)) with
            | false => simpa [qr, denSs, denS, den] using hP
            | true =>
              simp only [qr, Bool.not_true, Bool.false_eq_true, if_false, Bool.true_and] at hP ⊢
              rw [denSs]
              refine cons_ife false (fun Q h => by simpa [den, ci_eq] using h) ?_
              simp only [Bool.false_eq_true, if_false, denSs]
              exact ih' hP
          · refine cons_ife false (fun Q h => by simpa [den, denB, ci_eq] using h) ?_
            simp only [Bool.false_eq_true, if_false]
            rw [denSs]
            refine cons_ife true (fun Q h => by simpa [den, ci_eq] using h) ?_
            simp only [if_true]
            unfold okHead at qh
            simp only [Bool.and_eq_true, decide_eq_true_eq] at qh
            obtain ⟨c', q', chs, e⟩ : ∃ a b c, r = [a, b, c] := three (by have := qh.1.1; simp at this; omega)
            subst e
            obtain ⟨m, hm, hl', hk'⟩ := ok_tup hy
            cases hm
            simp only [okRest, decide_true, Bool.true_and] at hP
            have kc := ok_le (hk' c' (by simp))
            have kq := ok_le (hk' q' (by simp))
            have kk := ok_le (hk' chs (by simp))
            refine cons_ife (!(isBetween c' 1 1000 && isPair fs q' && isTup chs)) (fun Q hQ => ?_) ?_
            · simp only [den, denB, denEs, h2, h3]
              refine ix_tupk at1 ⟨c', 1, 1000, rfl, kc, ?_⟩
              cases q1 : isBetween c' 1 1000 with
              | false => simpa [q1] using hQ
              | true =>
                simp [q1] at hQ ⊢
                refine ix_tupk at2 ⟨fs, q', rfl, hf, kq, ?_⟩
                cases q2 : isPair fs q' with
                | false => simpa [q2] using hQ
                | true =>
                  simp [q2] at hQ ⊢
                  refine ix_tupk at3 ?_
                  rw [isTys_ok kk (by rfl)]
                  cases chs <;> simp [ty1, isTup] at hQ ⊢ <;> exact hQ
            · cases q1 : (isBetween c' 1 1000 && isPair fs q' && isTup chs) with
              | false =>
                have : (isBetween c' 1 1000 && isPair fs q' && isPairs fs chs) = false := by
                  cases q2 : (isBetween c' 1 1000 && isPair fs q') with
                  | false => rfl
                  | true =>
                    rw [q2, Bool.true_and] at q1
                    cases chs <;> first | rfl | (simp [isTup] at q1; done)
                rw [this] at hP
                simpa [denSs, denS, den] using hP
              | true =>
                simp only [Bool.and_eq_true] at q1
                rw [q1.1.1, q1.1.2, Bool.true_and, Bool.true_and] at hP
                obtain ⟨_, qt⟩ := q1
                cases chs <;> try (cases qt; done)
                rename_i cs
                obtain ⟨m, hm, hcl, hck⟩ := ok_tup (hk' (.tup cs) (by simp))
                cases hm
                simp only [Bool.not_true, Bool.false_eq_true, if_false]
                rw [denSs]
                refine cons_ife (!(decide ((0 : Int) < cs.length) && decide ((cs.length : Int) < 4))) (fun Q hQ => ?_) ?_
                · simp only [den]
                  refine ix_tupk at3 (len_tup ?_)
                  simp only [ci_lt]
                  cases z1 : decide ((0 : Int) < cs.length) <;> cases z2 : decide ((cs.length : Int) < 4) <;> simp only [z1, z2] at hQ ⊢ <;> simpa using hQ
                · have ez : (decide ((0 : Int) < cs.length) && decide ((cs.length : Int) < 4)) = (decide (1 ≤ cs.length) && decide (cs.length ≤ 3)) := by
                    rw [Bool.eq_iff_iff]; simp; omega
                  simp only [isPairs] at hP
                  rw [ez]
                  cases qz : (decide (1 ≤ cs.length) && decide (cs.length ≤ 3)) with
                  | false =>
                    rw [qz] at hP
                    simpa [denSs, denS, den] using hP
                  | true =>
                    rw [qz, Bool.true_and] at hP
                    simp only [Bool.not_true, Bool.false_eq_true, if_false]
                    rw [denSs]
                    refine cons_ife (cs.any fun d => !isPair fs d) (fun Q hQ => ?_) ?_
                    · simp [den, denP, denI, denEs, h2, wipeE]
                      refine ix_tupk at3 ?_
                      simp [items1]
                      refine comp_ne (fun d => !isPair fs d) id hcl (fun d hd => D.ok.dat (n := 57) (by decide) (hck d hd)) (fun d hd k hk1 hk2 => ?_) hQ
                      simp [asg]
                      refine ⟨fs, d, rfl, hf, ok_le (hck d hd), ?_⟩
                      cases q5 : isPair fs d with
                      | false => simpa [q5] using hk1 (by simp [q5])
                      | true => simpa [q5] using hk2 (by simp [q5])
                    · have ea : (cs.any fun d => !isPair fs d) = !cs.all (isPair fs) := List.not_all_eq_any_not.symm
                      rw [ea]
                      cases qa : cs.all (isPair fs) with
                      | false =>
                        rw [qa] at hP
                        simpa [denSs, denS, den] using hP
                      | true =>
                        rw [qa, Bool.true_and] at hP
                        simp only [Bool.not_true, Bool.false_eq_true, if_false, denSs]
                        exact ih' hP
    exact main xs _ _ _ hlet hk hP
def shape3 (x : D) : Bool := match x with | .tup [.tup _, _, _] => true | _ => false
theorem shape3_of {x : D} (h : shape3 x = true) : ∃ fs d m, x = .tup [.tup fs, d, m] := by
  unfold shape3 at h
  split at h
  · exact ⟨_, _, _, rfl⟩
  · cases h
theorem d__law_is_world (h1 : Γ.fn "_law_is_name" = some sp_is_name) (h2 : Γ.fn "_law_are_rising" = some sp__law_are_rising) (h3 : Γ.fn "_law_are_deeds" = some sp__law_are_deeds) : Does Γ 2 1 b__law_is_world sp_is_world := by
  rintro ds st P ⟨x, rfl, hx, hP⟩
  refine ⟨rfl, ?_⟩
  unfold b__law_is_world
  refine cons_ife (!shape3 x) (fun Q hQ => ?_) ?_
  · simp [den, denB, denEs, startE, isTys_ok hx, clsB]
    cases x <;> simp [ty1] at hQ ⊢ <;> try exact hQ
    rename_i xs
    obtain ⟨m, hm, hl, hk⟩ := ok_tup hx
    cases hm
    refine len_tup ?_
    simp only [ci_ne]
    by_cases h5 : (xs.length : Int) = 3
    · obtain ⟨f, d, m, rfl⟩ := three h5
      simp at hQ ⊢
      refine ix_tupk at0 ?_
      rw [isTys_ok (ok_le (hk f (by simp))) (by rfl)]
      cases f <;> simp [ty1, shape3] at hQ ⊢ <;> exact hQ
    · simp [h5] at hQ ⊢
      rcases xs with _ | ⟨a, _ | ⟨b, _ | ⟨c, _ | ⟨d, r⟩⟩⟩⟩ <;> simp at h5 <;> simpa [shape3] using hQ
  · cases hsh : shape3 x with
    | true =>
      obtain ⟨fs, d, m, rfl⟩ := shape3_of hsh
      obtain ⟨_, hm, hl, hk⟩ := ok_tup hx
      cases hm
      have kf := hk (.tup fs) (by simp)
      have kd := ok_le (hk d (by simp))
      have km := ok_le (hk m (by simp))
      obtain ⟨_, hm, hfl, hfk⟩ := ok_tup kf
      cases hm
      simp only [Bool.not_true, Bool.false_eq_true, if_false]
      rw [denSs]
      refine cons_ife (!(decide ((0 : Int) < fs.length) && decide ((fs.length : Int) < 7) && fs.all isName)) (fun Q hQ => ?_) ?_
      · simp [den, denB, denP, denI, denEs, startE, wipeE, h1]
        refine ix_tupk at0 (len_tup ?_)
        simp only [ci_lt]
        cases z1 : decide ((0 : Int) < fs.length) with
        | false => simp only [z1] at hQ ⊢; simpa using hQ
        | true =>
          cases z2 : decide ((fs.length : Int) < 7) with
          | false => simp only [z1, z2] at hQ ⊢; simpa using hQ
          | true =>
            simp only [z1, z2] at hQ ⊢
            simp at hQ ⊢
            refine ix_tupk at0 ?_
            simp [items1]
            refine comp_ne (fun d => !isName d) id hfl (fun d hd => D.ok.dat (n := 58) (by decide) (hfk d hd)) (fun d hd k hk1 hk2 => ?_) ?_
            · simp [asg]
              refine ⟨d, rfl, ok_le (hfk d hd), ?_⟩
              cases q5 : isName d with
              | false => simpa [q5] using hk1 (by simp [q5])
              | true => simpa [q5] using hk2 (by simp [q5])
            · have ea : (fs.any fun d => !isName d) = !fs.all isName := List.not_all_eq_any_not.symm
              rw [ea]
              cases q : fs.all isName <;> simp only [q] at hQ ⊢ <;> simpa using hQ
      · have ez : (decide ((0 : Int) < fs.length) && decide ((fs.length : Int) < 7)) = (decide (1 ≤ fs.length) && decide (fs.length ≤ 6)) := by
          rw [Bool.eq_iff_iff]; simp; omega
        rw [ez]
        cases q : (decide (1 ≤ fs.length) && decide (fs.length ≤ 6) && fs.all isName) with
        | false =>
          have : isWorld (.tup [.tup fs, d, m]) = false := by simp only [isWorld, areFacts, q, Bool.false_and]
          rw [this] at hP
          simpa [denSs, denS, den] using hP
        | true =>
          simp only [Bool.not_true, Bool.false_eq_true, if_false]
          rw [denSs]
          have hn : ∀ x ∈ fs, isName x = true := by
            simp only [Bool.and_eq_true, List.all_eq_true] at q
            exact q.2
          refine cons_ife (!rises fs) (fun Q hQ => ?_) ?_
          · simp [den, denEs, startE, h2]
            refine ix_tupk at0 ⟨_, rfl, ok_le kf, fun ys e => ?_, ?_⟩
            · cases e; exact sortable_strs hfl (fun x hx => D.ok.mono (Nat.le_refl _) (by decide) (hfk x hx)) fun x hx => name_str (hn x hx)
            · cases q9 : rises fs <;> simpa [q9] using hQ
          · cases qr : rises fs with
            | false =>
              have : isWorld (.tup [.tup fs, d, m]) = false := by simp only [isWorld, areFacts, q, qr, Bool.and_false, Bool.false_and]
              rw [this] at hP
              simpa [denSs, denS, den] using hP
            | true =>
              simp only [Bool.not_true, Bool.false_eq_true, if_false]
              rw [denSs]
              have ew : isWorld (.tup [.tup fs, d, m]) = (areDeeds fs d 8 4 && areDeeds fs m 4 3) := by
                simp only [isWorld, areFacts, q, qr, Bool.true_and, tItems]
                cases d <;> try rfl
                rename_i xd
                cases m <;> try (simp [isTup, areDeeds]; done)
                rename_i xm
                simp only [isTup, areNamed, areDeeds, Bool.true_and, tItems]
                have e4 : (okD fs 4) = isDeed fs := by funext z; rfl
                have e3 : (okD fs 3) = isMeddler fs := by funext z; rfl
                rw [e4, e3]
                cases xd.all (isDeed fs) <;> cases xm.all (isMeddler fs) <;> cases decide ((xd.length : Int) ≤ 8) <;> cases decide ((xm.length : Int) ≤ 4) <;> cases rises (List.map first xd) <;> cases rises (List.map first xm) <;> rfl
              rw [ew] at hP
              simp [denSs, denS, den, denB, denEs, startE, h3]
              refine ix_tupk at0 (ix_tupk at1 ⟨fs, d, 8, 4, rfl, ok_le kf, kd, .inr rfl, ?_⟩)
              cases q1 : areDeeds fs d 8 4 with
              | false => rw [q1] at hP; simpa using hP
              | true =>
                rw [q1] at hP
                simp at hP ⊢
                exact ix_tupk at0 (ix_tupk at2 ⟨fs, m, 4, 3, rfl, ok_le kf, km, .inl rfl, hP⟩)
    | false =>
      have e2 : isWorld x = false := by
        cases q : isWorld x with
        | false => rfl
        | true =>
          unfold isWorld at q
          split at q
          · rename_i f d m
            simp only [Bool.and_eq_true] at q
            obtain ⟨fs, rfl⟩ := facts_tup q.1.1.1.1
            cases hsh
          · cases q
      rw [e2] at hP
      simpa [denSs, denS, den] using hP
end
end G
/-! What is drawn. -/
namespace G
open PySem PySem.Spec PyProof.Rows L2
def b__law_draws : Ss := (.cons (.asg (.var 2) (.bin .Mult (.int 15485863) (.var 1))) (.cons (.ife (.cmp .Lt (.var 1) (.bi .len (.var 0))) (.cons (.asg (.var 2) (.bin .Mod (.idx (.var 0) (.var 1)) (.bin .Mult (.bin .Mult (.bin .Mult (.bin .Mult (.bin .Pow (.int 10) (.int 60)) (.bin .Pow (.int 10) (.int 60))) (.bin .Pow (.int 10) (.int 60))) (.bin .Pow (.int 10) (.int 60))) (.bin .Pow (.int 10) (.int 60))))) .nil) (.cons (.ife (.cmp .Gt (.bi .len (.var 0)) (.int 0)) (.cons (.asg (.var 2) (.bin .Add (.bin .Mod (.idx (.var 0) (.bin .Mod (.var 1) (.bi .len (.var 0)))) (.bin .Pow (.int 10) (.int 15))) (.bin .Mult (.int 15485863) (.var 1)))) .nil) .nil) .nil)) (.cons (.ret (.bx (.disp (.cons (.bin .Mult (.var 2) (.bi .int (.cmp .GtE (.var 2) (.bin .Pow (.int 10) (.int 18))))) (.cons (.bin .Add (.int 1) (.bin .Mod (.bin .Add (.bin .Mult (.var 2) (.int 69621)) (.bin .Mult (.int 86028121) (.bin .Add (.var 1) (.int 1)))) (.int 2147483646))) .nil))))) .nil)))
def b__law_draw_1 : Ss := (.cons (.sto (.var 0) (.int 1) (.bin .Mod (.bin .Mult (.idx (.var 0) (.int 1)) (.int 69621)) (.int 2147483647))) (.cons (.asg (.var 2) (.bin .Add (.bin .Mult (.var 2) (.int 268435456)) (.bin .FloorDiv (.bin .Mod (.bin .Mult (.idx (.var 0) (.int 1)) (.bin .Add (.bin .FloorDiv (.idx (.var 0) (.int 1)) (.int 128)) (.int 3))) (.int 2147483629)) (.int 8)))) (.cons (.asg (.var 3) (.bin .Mult (.var 3) (.int 268435456))) .nil)))
def b__law_draw : Ss := (.cons (.ife (.cmp .Gt (.idx (.var 0) (.int 0)) (.int 0)) (.cons (.asg (.var 2) (.bin .Mod (.idx (.var 0) (.int 0)) (.var 1))) (.cons (.sto (.var 0) (.int 0) (.bin .FloorDiv (.idx (.var 0) (.int 0)) (.var 1))) (.cons (.ret (.var 2)) .nil))) .nil) (.cons (.asg (.var 2) (.int 0)) (.cons (.asg (.var 3) (.int 1)) (.cons (.whl (.cmp .Lt (.var 3) (.var 1)) b__law_draw_1) (.cons (.ret (.bin .Mod (.var 2) (.var 1))) .nil)))))
def b__law_pair_1 : Ss := (.cons (.asg (.var 5) (.call "_law_draw" (.cons (.var 0) (.cons (.var 2) .nil)))) (.cons (.ife (.cmp .Lt (.var 5) (.int 2)) (.cons (.exp (.app (.idx (.var 3) (.var 5)) (.var 4))) .nil) .nil) .nil))
def b__law_pair : Ss := (.cons (.asg (.var 3) (.bx (.disp (.cons (.bx (.disp .nil)) (.cons (.bx (.disp .nil)) .nil))))) (.cons (.for (.var 4) (.of (.var 1)) b__law_pair_1) (.cons (.ret (.tup (.cons (.bi .tuple (.idx (.var 3) (.int 0))) (.cons (.bi .tuple (.idx (.var 3) (.int 1))) .nil)))) .nil)))
def b__law_world_1 : Ss := (.cons (.asg (.var 7) (.fr (.comp [8] (.var 8) (.range1 (.idx (.fr (.disp (.cons (.int 1) (.cons (.int 1) (.cons (.int 2) (.cons (.int 3) .nil)))))) (.call "_law_draw" (.cons (.var 0) (.cons (.int 4) .nil))))) (.call "_law_pair" (.cons (.var 0) (.cons (.var 2) (.cons (.int 3) .nil))))))) (.cons (.exp (.app (.var 5) (.tup (.cons (.var 4) (.cons (.bin .Add (.int 1) (.call "_law_draw" (.cons (.var 0) (.cons (.var 3) .nil)))) (.cons (.call "_law_pair" (.cons (.var 0) (.cons (.var 2) (.cons (.int 6) .nil)))) (.cons (.bi .tuple (.var 7)) .nil))))))) .nil))
def b__law_world_2 : Ss := (.cons (.exp (.app (.var 6) (.tup (.cons (.var 4) (.cons (.call "_law_pair" (.cons (.var 0) (.cons (.var 2) (.cons (.int 4) .nil)))) (.cons (.call "_law_pair" (.cons (.var 0) (.cons (.var 2) (.cons (.int 6) .nil)))) .nil)))))) .nil)
def b__law_world : Ss := (.cons (.asg (.var 2) (.slc (.tup (.cons (.str "dry") (.cons (.str "fed") (.cons (.str "lit") (.cons (.str "open") (.cons (.str "told") (.cons (.str "warm") .nil))))))) .no (.at (.bin .Add (.int 1) (.call "_law_draw" (.cons (.var 0) (.cons (.var 1) .nil))))))) (.cons (.par [5, 6] (.cons (.bx (.disp .nil)) (.cons (.bx (.disp .nil)) .nil))) (.cons (.asg (.var 3) (.idx (.fr (.disp (.cons (.int 1) (.cons (.int 4) (.cons (.int 1000) .nil))))) (.call "_law_draw" (.cons (.var 0) (.cons (.int 3) .nil))))) (.cons (.for (.var 4) (.of (.fr (.slc (.fr (.disp (.cons (.str "air") (.cons (.str "bake") (.cons (.str "call") (.cons (.str "dig") (.cons (.str "eat") (.cons (.str "fix") (.cons (.str "go") (.cons (.str "heat") .nil)))))))))) .no (.at (.bin .Add (.int 1) (.call "_law_draw" (.cons (.var 0) (.cons (.int 7) .nil)))))))) b__law_world_1) (.cons (.for (.var 4) (.of (.fr (.slc (.fr (.disp (.cons (.str "mice") (.cons (.str "rain") (.cons (.str "thief") (.cons (.str "wind") .nil)))))) .no (.at (.idx (.fr (.disp (.cons (.int 0) (.cons (.int 0) (.cons (.int 1) (.cons (.int 2) (.cons (.int 4) .nil))))))) (.call "_law_draw" (.cons (.var 0) (.cons (.int 5) .nil)))))))) b__law_world_2) (.cons (.ret (.tup (.cons (.var 2) (.cons (.bi .tuple (.var 5)) (.cons (.bi .tuple (.var 6)) .nil))))) .nil))))))
def b__law_state : Ss := (.cons (.ret (.bi .tuple (.fr (.compif [2] (.var 2) (.of (.var 1)) (.cmp .Eq (.call "_law_draw" (.cons (.var 0) (.cons (.int 2) .nil))) (.int 0)) (.var 2))))) .nil)
def b__law_case : Ss := (.cons (.asg (.var 2) (.call "_law_world" (.cons (.var 0) (.cons (.var 1) .nil)))) (.cons (.asg (.var 3) (.call "_law_pair" (.cons (.var 0) (.cons (.idx (.var 2) (.int 0)) (.cons (.int 4) .nil))))) (.cons (.ret (.tup (.cons (.var 2) (.cons (.var 3) (.cons (.tup (.cons (.call "_law_state" (.cons (.var 0) (.cons (.idx (.var 2) (.int 0)) .nil))) (.cons (.call "_law_draw" (.cons (.var 0) (.cons (.int 3) .nil))) (.cons (.call "_law_draw" (.cons (.var 0) (.cons (.int 3) .nil))) .nil)))) .nil))))) .nil)))
def b__law_of : Ss := (.cons (.ret (.idx (.var 1) (.call "_law_draw" (.cons (.var 0) (.cons (.bi .len (.var 1)) .nil))))) .nil)
def b__law_thing : Ss := (.cons (.asg (.var 2) (.call "_law_draw" (.cons (.var 0) (.cons (.int 9) .nil)))) (.cons (.ife (.bop false (.cons (.cmp .Lt (.var 2) (.int 6)) (.cons (.cmp .Eq (.var 1) (.int 0)) .nil))) (.cons (.asg (.var 4) (.fr (.disp (.cons (.int 0) (.cons (.int 1) (.cons (.neg (.int 1)) (.cons (.bl true) (.cons (.bl false) (.cons .non (.cons (.str "") (.cons (.str "air") (.cons (.str "dry") (.cons (.str "A") (.cons (.bin .Pow (.int 10) (.int 39)) (.cons (.str "abcdefghi") (.cons (.int 4) (.cons (.int 1001) .nil))))))))))))))))) (.cons (.ret (.call "_law_of" (.cons (.var 0) (.cons (.fr (.cat (.var 4) (.fr (.disp (.cons (.tup .nil) (.cons (.fr (.disp .nil)) (.cons (.tup (.cons (.tup .nil) (.cons (.tup .nil) .nil))) (.cons (.tup (.cons (.str "dry") .nil)) (.cons (.tup (.cons (.str "lit") (.cons (.str "dry") .nil))) (.cons (.tup (.cons (.tup (.cons (.str "dry") .nil)) (.cons (.tup (.cons (.str "dry") .nil)) .nil))) (.cons (.tup (.cons (.tup .nil) (.cons (.int 0) (.cons (.int 0) .nil)))) .nil))))))))))) .nil)))) .nil)) .nil) (.cons (.asg (.var 3) (.fr (.comp [5] (.var 5) (.range1 (.call "_law_draw" (.cons (.var 0) (.cons (.int 4) .nil)))) (.call "_law_thing" (.cons (.var 0) (.cons (.bin .Sub (.var 1) (.int 1)) .nil)))))) (.cons (.ret (.idx (.fr (.disp (.cons (.var 3) (.cons (.bi .tuple (.var 3)) (.cons (.bi .tuple (.var 3)) .nil))))) (.bin .Sub (.var 2) (.int 6)))) .nil))))
def b__law_otherwise : Ss := (.cons (.asg (.var 3) (.bx (.list (.var 1)))) (.cons (.ife (.cmp .Eq (.var 3) (.fr (.disp .nil))) (.cons (.ret (.tup (.cons (.call "_law_thing" (.cons (.var 0) (.cons (.int 1) .nil))) .nil))) .nil) .nil) (.cons (.asg (.var 4) (.call "_law_draw" (.cons (.var 0) (.cons (.bi .len (.var 3)) .nil)))) (.cons (.ife (.bop true (.cons (.isi (.idx (.var 3) (.var 4)) [.tuple, .list]) (.cons (.cmp .Gt (.var 2) (.int 0)) (.cons (.cmp .Gt (.call "_law_draw" (.cons (.var 0) (.cons (.int 5) .nil))) (.int 0)) .nil)))) (.cons (.sto (.var 3) (.var 4) (.call "_law_otherwise" (.cons (.var 0) (.cons (.idx (.var 3) (.var 4)) (.cons (.bin .Sub (.var 2) (.int 1)) .nil))))) (.cons (.ret (.ite (.isi (.var 1) [.list]) (.frz (.var 3)) (.bi .tuple (.var 3)))) .nil)) .nil) (.cons (.asg (.var 5) (.call "_law_draw" (.cons (.var 0) (.cons (.int 8) .nil)))) (.cons (.ife (.cmp .Eq (.var 5) (.int 0)) (.cons (.exp (.popAt (.var 3) (.var 4))) .nil) (.cons (.ife (.cmp .Eq (.var 5) (.int 1)) (.cons (.exp (.ins (.var 3) (.var 4) (.idx (.var 3) (.var 4)))) .nil) (.cons (.ife (.cmp .Eq (.var 5) (.int 2)) (.cons (.slst (.var 3) (.var 4) (.bin .Add (.var 4) (.int 2)) (.fr (.rev (.fr (.slc (.var 3) (.at (.var 4)) (.at (.bin .Add (.var 4) (.int 2)))))))) .nil) (.cons (.ife (.cmp .Eq (.var 5) (.int 3)) (.cons (.sto (.var 3) (.var 4) (.call "_law_thing" (.cons (.var 0) (.cons (.int 2) .nil)))) .nil) (.cons (.ife (.bop true (.cons (.cmp .Eq (.var 5) (.int 4)) (.cons (.isi (.idx (.var 3) (.var 4)) [.str]) .nil))) (.cons (.asg (.var 6) (.idx (.var 3) (.var 4))) (.cons (.sto (.var 3) (.var 4) (.call "_law_of" (.cons (.var 0) (.cons (.fr (.disp (.cons (.bin .Add (.var 6) (.str "a")) (.cons (.slc (.var 6) (.at (.int 1)) .no) (.cons (.upper (.var 6)) (.cons (.str "") (.cons .non (.cons (.str "dry") (.cons (.str "zz") .nil))))))))) .nil)))) .nil)) (.cons (.ife (.bop true (.cons (.cmp .Lt (.var 5) (.int 6)) (.cons (.isi (.idx (.var 3) (.var 4)) [.int]) .nil))) (.cons (.asg (.var 7) (.idx (.var 3) (.var 4))) (.cons (.sto (.var 3) (.var 4) (.call "_law_of" (.cons (.var 0) (.cons (.fr (.disp (.cons (.bin .Add (.var 7) (.int 1)) (.cons (.bin .Sub (.var 7) (.int 1)) (.cons (.bin .Sub (.int 0) (.var 7)) (.cons (.bl true) (.cons (.bl false) (.cons .non (.cons (.mx false (.bin .Mult (.int 1000) (.var 7)) (.bin .Pow (.int 10) (.int 39))) .nil))))))))) .nil)))) .nil)) (.cons (.ife (.bop true (.cons (.cmp .Eq (.var 5) (.int 6)) (.cons (.isi (.idx (.var 3) (.var 4)) [.tuple]) .nil))) (.cons (.sto (.var 3) (.var 4) (.fr (.list (.idx (.var 3) (.var 4))))) .nil) (.cons (.ret (.ite (.isi (.var 1) [.list]) (.bi .tuple (.var 3)) (.frz (.var 3)))) .nil)) .nil)) .nil)) .nil)) .nil)) .nil)) .nil)) (.cons (.ret (.ite (.isi (.var 1) [.list]) (.frz (.var 3)) (.bi .tuple (.var 3)))) .nil)))))))
def b_law_1 : Ss := (.cons (.ife (.not (.call "_law_truly" (.cons (.call "is_world" (.cons (.var 7) .nil)) (.cons (.call "_law_is_world" (.cons (.var 7) .nil)) .nil)))) (.cons (.ret (.bl false)) .nil) .nil) .nil)
def b_law_2 : Ss := (.cons (.ife (.not (.call "_law_truly" (.cons (.call "is_state" (.cons (.var 8) (.cons (.var 7) .nil))) (.cons (.call "_law_are_some" (.cons (.idx (.var 8) (.int 0)) (.cons (.var 7) .nil))) .nil)))) (.cons (.ret (.bl false)) .nil) .nil) .nil)
def b_law_3 : Ss := (.cons (.ife (.not (.call "_law_truly" (.cons (.call "is_condition" (.cons (.var 8) (.cons (.var 7) .nil))) (.cons (.call "_law_is_pair" (.cons (.idx (.var 8) (.int 0)) (.cons (.var 7) .nil))) .nil)))) (.cons (.ret (.bl false)) .nil) .nil) .nil)
def b_law_4 : Ss := (.cons (.ife (.not (.call "_law_truly" (.cons (.call "is_place" (.cons (.var 8) (.cons (.var 7) .nil))) (.cons (.call "_law_is_place" (.cons (.var 8) (.cons (.var 7) .nil))) .nil)))) (.cons (.ret (.bl false)) .nil) .nil) .nil)
def b_law_5 : Ss := (.cons (.asg (.var 2) (.call "_law_draws" (.cons (.var 0) (.cons (.var 1) .nil)))) (.cons (.asg (.tup (.cons (.var 8) (.cons (.var 9) (.cons (.var 10) .nil)))) (.call "_law_case" (.cons (.var 2) (.cons (.int 6) .nil)))) (.cons (.asg (.var 3) (.call "_law_otherwise" (.cons (.var 2) (.cons (.var 8) (.cons (.int 5) .nil))))) (.cons (.asg (.var 4) (.tup (.cons (.tup .nil) (.cons (.tup .nil) .nil)))) (.cons (.asg (.var 5) (.bx (.disp (.cons (.var 8) (.cons (.var 3) (.cons (.fr (.list (.var 8))) (.cons (.call "_law_thing" (.cons (.var 2) (.cons (.int 3) .nil))) (.cons (.tup (.cons (.bin .Add (.idx (.var 8) (.int 0)) (.tup (.cons (.str "zz") .nil))) (.cons (.idx (.var 8) (.int 1)) (.cons (.idx (.var 8) (.int 2)) .nil)))) .nil)))))))) (.cons (.exp (.app (.var 5) (.ite (.cmp .NotIn (.var 3) (.tup (.cons (.tup .nil) (.cons (.fr (.disp .nil)) .nil)))) (.call "_law_otherwise" (.cons (.var 2) (.cons (.var 3) (.cons (.int 5) .nil)))) (.var 3)))) (.cons (.asg (.var 6) (.slc (.str "abcdefghi") .no (.at (.bin .Add (.int 7) (.call "_law_draw" (.cons (.var 2) (.cons (.int 3) .nil))))))) (.cons (.exp (.app (.var 5) (.tup (.cons (.idx (.var 8) (.int 0)) (.cons (.bi .tuple (.fr (.comp [11] (.var 11) (.of (.var 6)) (.tup (.cons (.var 11) (.cons (.int 1) (.cons (.var 4) (.cons (.tup (.cons (.var 4) .nil)) .nil)))))))) (.cons (.tup .nil) .nil)))))) (.cons (.exp (.app (.var 5) (.tup (.cons (.idx (.var 8) (.int 0)) (.cons (.tup .nil) (.cons (.bi .tuple (.fr (.comp [11] (.var 11) (.of (.slc (.var 6) .no (.at (.bin .Add (.int 3) (.call "_law_draw" (.cons (.var 2) (.cons (.int 3) .nil))))))) (.tup (.cons (.var 11) (.cons (.var 4) (.cons (.var 4) .nil))))))) .nil)))))) (.cons (.exp (.app (.var 5) (.tup (.cons (.idx (.var 8) (.int 0)) (.cons (.tup (.cons (.tup (.cons (.str "a") (.cons (.int 1) (.cons (.var 4) (.cons (.bin .Mult (.tup (.cons (.var 4) .nil)) (.bin .Add (.int 2) (.call "_law_draw" (.cons (.var 2) (.cons (.int 3) .nil))))) .nil))))) .nil)) (.cons (.tup .nil) .nil)))))) (.cons (.gfz 5) (.cons (.for (.var 7) (.of (.var 5)) b_law_1) (.cons (.for (.var 7) (.of (.fr (.disp (.cons (.idx (.var 10) (.int 0)) (.cons (.call "_law_otherwise" (.cons (.var 2) (.cons (.idx (.var 10) (.int 0)) (.cons (.int 0) .nil)))) (.cons (.fr (.list (.idx (.var 10) (.int 0)))) (.cons (.call "_law_thing" (.cons (.var 2) (.cons (.int 2) .nil))) (.cons (.var 9) .nil)))))))) b_law_2) (.cons (.for (.var 7) (.of (.fr (.disp (.cons (.var 9) (.cons (.call "_law_otherwise" (.cons (.var 2) (.cons (.var 9) (.cons (.int 1) .nil)))) (.cons (.fr (.list (.var 9))) (.cons (.call "_law_thing" (.cons (.var 2) (.cons (.int 2) .nil))) (.cons (.tup (.cons (.idx (.var 9) (.int 0)) (.cons (.idx (.var 9) (.int 0)) .nil))) (.cons (.rev (.var 9)) .nil))))))))) b_law_3) (.cons (.for (.var 7) (.of (.fr (.disp (.cons (.var 10) (.cons (.call "_law_otherwise" (.cons (.var 2) (.cons (.var 10) (.cons (.int 1) .nil)))) (.cons (.fr (.list (.var 10))) (.cons (.call "_law_thing" (.cons (.var 2) (.cons (.int 2) .nil))) (.cons (.tup (.cons (.idx (.var 10) (.int 0)) (.cons (.int 3) (.cons (.int 4) .nil)))) .nil)))))))) b_law_4) .nil)))))))))))))))
def b_law : Ss := (.cons (.for (.var 1) (.range1 (.mx true (.int 1) (.mx false (.int 20) (.bi .len (.var 0))))) b_law_5) (.cons (.ret (.bl true)) .nil))
/-- what the draws are made of -/
def Dr (st : Store) (a : Addr) : Prop := ∃ u v : Int, st a = some (.lst [.int u, .int v])
structure Keep (a : Addr) (st st' : Store) : Prop where
  dr : Dr st' a
  ob : ∀ b o, b ≠ a → st b = some o → st' b = some o
theorem Keep.refl {a : Addr} {st : Store} (h : Dr st a) : Keep a st st := ⟨h, fun _ _ _ e => e⟩
theorem Keep.trans {a : Addr} {s1 s2 s3 : Store} (h : Keep a s1 s2) (h' : Keep a s2 s3) : Keep a s1 s3 := ⟨h'.dr, fun b o n e => h'.ob b o n (h.ob b o n e)⟩
theorem set_ne {st : Store} {a b : Addr} {o : Ob} (h : b ≠ a) : st.set a o b = st b := by unfold Store.set; rw [if_neg h]
theorem Keep.set {a : Addr} {st : Store} (u v : Int) : Keep a st (st.set a (.lst [.int u, .int v])) := ⟨⟨u, v, Store.set_same⟩, fun b o n e => by rw [set_ne n]; exact e⟩
/-- a new object -/
theorem Keep.new {a b : Addr} {st : Store} {o : Ob} (h : Dr st a) (n : st b = none) : Keep a st (st.set b o) := by
  obtain ⟨u, v, e⟩ := h
  refine ⟨⟨u, v, ?_⟩, fun c o' hc e' => ?_⟩
  · rw [set_ne (fun z => by rw [z, n] at e; cases e)]; exact e
  · rw [set_ne (fun z => by rw [z, n] at e'; cases e')]; exact e'
theorem ix_loc {st : Store} {a : Addr} {xs : List D} {j : Int} {d : D} {k : D → Prop} (e : st a = some (.lst xs)) (h : atI xs j = some d) (q : k d) : idxR st (.loc a) (.int j) k := .inl ⟨xs, j, d, by show (match st a with | some (.lst xs) => some xs | _ => none) = _; rw [e], rfl, h, q⟩
theorem cons_ife' {Γ : Ctx} {ρ : Env} {st : Store} {c : E} {a b : Ss} {K : Kn} (t : Bool) (hc : Ev Γ ρ st c (.bl t)) (h : if t = true then denSs Γ X0 a K ρ st else denSs Γ X0 b K ρ st) : denS Γ X0 (.ife c a b) K ρ st := ife_ev t hc h
def sp__law_draw : Spec := fun ds st P _ => ∃ a m, ds = [.loc a, .int m] ∧ 0 < m ∧ m < 1073741824 ∧ Dr st a ∧ ∀ r st', 0 ≤ r → r < m → Keep a st st' → P (.int r) st'
section
variable {Γ : Ctx}
theorem ixN0 {n : Nat} (h : 0 < n) : ixN n 0 = some 0 := by unfold ixN; rw [if_pos (by decide), if_pos (by omega)]; rfl
theorem ixN1 {n : Nat} (h : 1 < n) : ixN n 1 = some 1 := by unfold ixN; rw [if_pos (by decide), if_pos (by omega)]; rfl
theorem d__law_draw : Does Γ 4 2 b__law_draw sp__law_draw := by
  rintro ds st P ⟨a, m, rfl, hm, hm2, ⟨u, v, e⟩, hP⟩
  refine ⟨rfl, ?_⟩
  unfold b__law_draw
  refine cons_ife (decide (0 < u)) (fun Q hQ => ?_) ?_
  · simp [den, startE]
    exact ix_loc e at0 (by simpa [ci_gt] using hQ)
  · by_cases hu : 0 < u
    · simp only [hu, decide_true, if_true]
      refine cons_asg (.int (u % m)) (fun Q hQ => ?_) ?_
      · simp [den, startE]
        exact ix_loc e at0 ⟨hm, hQ⟩
      · rw [denSs, denS]
        simp [den, startE]
        refine ix_loc e at0 ⟨⟨hm, hm2⟩, ?_⟩
        refine ⟨_, e, 0, 0, rfl, ixN0 (by simp), ?_⟩
        simp [denSs, denS, den]
        exact hP _ _ (Int.emod_nonneg _ (by omega)) (Int.emod_lt_of_pos _ hm) (Keep.set _ _)
    · simp only [hu, decide_false, Bool.false_eq_true, if_false]
      rw [denSs]
      refine cons_asg (.int 0) (fun Q hQ => by simpa [den] using hQ) ?_
      refine cons_asg (.int 1) (fun Q hQ => by simpa [den] using hQ) ?_
      rw [denSs, denS]
      refine ⟨4, whlN_inv (fun n ρ st' => ∃ f : Int, n ≤ 2 ∧ ρ = [some (.loc a), some (.int m), some (.int f), some (.int (2 ^ (28 * (2 - n))))] ∧ Keep a st st') ?_ 4 _ _ 2 (by decide) ⟨0, by decide, rfl, Keep.refl ⟨u, v, e⟩⟩⟩
      rintro n ρ st' N ⟨f, hn, rfl, hk⟩ hN
      simp only [den]
      simp [ci_lt]
      by_cases hw : (2 : Int) ^ (28 * (2 - n)) < m
      · simp only [hw, if_true]
        have hn0 : 1 ≤ n := by
          rcases n with _ | n
          · exfalso
            have : (2 : Int) ^ (28 * (2 - 0)) = 72057594037927936 := by decide
            rw [this] at hw
            omega
          · omega
        obtain ⟨u', v', e'⟩ := hk.dr
        unfold b__law_draw_1
        rw [denSs, denS]
        simp [den]
        refine ix_loc e' at1 ⟨.inl (.inr ⟨by decide, by decide⟩), ?_⟩
        simp [opR]
        refine ⟨_, e', 1, 1, rfl, ixN1 (by simp), ?_⟩
        simp [denSs, denS, den]
        have hv1 : 0 ≤ v' * 69621 % 2147483647 := Int.emod_nonneg _ (by decide)
        have hv2 : v' * 69621 % 2147483647 < 2147483647 := Int.emod_lt_of_pos _ (by decide)
        generalize v' * 69621 % 2147483647 = w at hv1 hv2 ⊢
        have es : (st'.set a (.lst [.int u', .int w])) a = some (.lst [.int u', .int w]) := Store.set_same
        have hmul1 : ∀ x : Int, MulOk x 268435456 := fun x => .inl (.inr ⟨by decide, by decide⟩)
        refine ⟨hmul1 _, ?_⟩
        refine ix_loc es at1 (ix_loc es at1 ?_)
        simp [opR]
        refine ⟨.inl (.inl ⟨by omega, by omega⟩), hmul1 _, ?_⟩
        refine hN (n - 1) _ _ (by omega) ⟨f * 268435456 + w * (w / 128 + 3) % 2147483629 / 8, by omega, ?_, hk.trans (Keep.set _ _)⟩
        have ep : (2 : Int) ^ (28 * (2 - n)) * 268435456 = 2 ^ (28 * (2 - (n - 1))) := by
          have : 28 * (2 - (n - 1)) = 28 * (2 - n) + 28 := by omega
          rw [this, Int.pow_add]
          rfl
        rw [ep]
        rfl
      · simp only [hw, if_false]
        simp [denSs, denS, den, opR, hm]
        exact hP _ _ (Int.emod_nonneg _ (by omega)) (Int.emod_lt_of_pos _ hm) hk
def sp__law_draws : Spec := fun ds st P _ => ∃ xs k, ds = [.ro xs, .int (Nat.cast k)] ∧ Ints xs ∧ ∀ a st', st a = none → Dr st' a → (∀ b o, st b = some o → st' b = some o) → P (.loc a) st'
theorem len_ro {st : Store} {xs : List D} {k : D → Prop} (q : k (.int xs.length)) : biR st .len (.ro xs) k := .inl ⟨xs, rfl, q⟩
theorem ix_ro {st : Store} {xs : List D} {j : Int} {d : D} {k : D → Prop} (h : atI xs j = some d) (q : k d) : idxR st (.ro xs) (.int j) k := .inl ⟨xs, j, d, rfl, rfl, h, q⟩
theorem mulW {i j : Int} (h : i.natAbs.log2 + j.natAbs.log2 < 1000000) : MulOk i j := .inr h
theorem d__law_draws : Does Γ 3 2 b__law_draws sp__law_draws := by
  rintro ds st P ⟨xs, k, rfl, hi, hP⟩
  refine ⟨rfl, ?_⟩
  unfold b__law_draws
  have hm : ∀ x : Int, MulOk 15485863 x := fun x => .inl (.inl ⟨by decide, by decide⟩)
  refine cons_asg (.int (15485863 * k)) (fun Q hQ => by simp [den, startE, opR]; exact ⟨hm _, hQ⟩) ?_
  -- what is returned
  have tail : ∀ cell : Int, denSs Γ X0 (.cons (.ret (.bx (.disp (.cons (.bin .Mult (.var 2) (.bi .int (.cmp .GtE (.var 2) (.bin .Pow (.int 10) (.int 18))))) (.cons (.bin .Add (.int 1) (.bin .Mod (.bin .Add (.bin .Mult (.var 2) (.int 69621)) (.bin .Mult (.int 86028121) (.bin .Add (.var 1) (.int 1)))) (.int 2147483646))) .nil))))) .nil)
      { nx := fun _ st => P .non st, rt := P } [some (.ro xs), some (.int (Nat.cast k)), some (.int cell)] st := by
    intro cell
    rw [denSs, denS]
    simp only [den, denP, denEs, List.getElem?_cons_zero, List.getElem?_cons_succ, opR, ci_ge]
    refine ⟨⟨by decide, by decide, by decide⟩, .inr ⟨_, rfl, ?_⟩⟩
    refine ⟨.inl (.inr ?_), ⟨.inl (.inr ⟨by decide, by decide⟩), .inl (.inl ⟨by decide, by decide⟩), by decide, ?_, fun a ha => ?_⟩⟩
    · split <;> decide
    · simp; decide
    · exact hP a _ ha ⟨_, _, Store.set_same⟩ fun b o e => by rw [set_ne fun z => by rw [z, ha] at e; cases e]; exact e
  have e0 : (startE 3 [.ro xs, .int (Nat.cast k)]).set 2 (some (.int (15485863 * (k : Int)))) = [some (.ro xs), some (.int (Nat.cast k)), some (.int (15485863 * (k : Int)))] := rfl
  rw [e0]
  refine cons_ife (decide ((k : Int) < xs.length)) (fun Q hQ => ?_) ?_
  · simp [den]
    exact len_ro (by simpa [ci_lt] using hQ)
  · by_cases h1 : (k : Int) < xs.length
    · simp only [h1, decide_true, if_true]
      obtain ⟨i, hi'⟩ := hi xs[k] (List.getElem_mem (by omega))
      have hat : atI xs (k : Int) = some (.int i) := at_nat (by rw [List.getElem?_eq_getElem (by omega), hi'])
      refine cons_asg (.int (i % (10 ^ 60 * 10 ^ 60 * 10 ^ 60 * 10 ^ 60 * 10 ^ 60))) (fun Q hQ => ?_) ?_
      · simp only [den, List.getElem?_cons_zero, List.getElem?_cons_succ]
        refine ix_ro hat ?_
        simp only [opR]
        have hc : CPow 10 60 := ⟨by decide, by decide, by decide⟩
        refine ⟨hc, hc, mulW (by decide +kernel), hc, mulW (by decide +kernel), hc, mulW (by decide +kernel), hc, mulW (by decide +kernel), by decide +kernel, ?_⟩
        exact hQ
      · simp only [denSs]
        exact tail _
    · simp only [h1, decide_false, Bool.false_eq_true, if_false]
      refine cons_ife (decide (0 < (xs.length : Int))) (fun Q hQ => ?_) ?_
      · simp [den]
        refine len_ro ?_
        rw [ci_gt]
        exact hQ
      · by_cases h2 : 0 < (xs.length : Int)
        · simp only [h2, decide_true, if_true]
          have hlt : k % xs.length < xs.length := Nat.mod_lt _ (by omega)
          obtain ⟨i, hi'⟩ := hi xs[k % xs.length] (List.getElem_mem hlt)
          have hat : atI xs ((k : Int) % (xs.length : Int)) = some (.int i) := by
            rw [← Int.natCast_emod]
            exact at_nat (by rw [List.getElem?_eq_getElem hlt, hi'])
          refine cons_asg (.int (i % 10 ^ 15 + 15485863 * k)) (fun Q hQ => ?_) ?_
          · simp only [den, List.getElem?_cons_zero, List.getElem?_cons_succ]
            refine len_ro ⟨by omega, ix_ro hat ?_⟩
            exact ⟨⟨by decide, by decide, by decide⟩, by decide, hm _, hQ⟩
          · simp only [denSs]
            exact tail _
        · simp only [h2, decide_false, Bool.false_eq_true, if_false, denSs]
          exact tail _
/-- facts put and taken, from these -/
def PairOf (fs ps ts : List D) : Prop := ps.Sublist fs ∧ ts.Sublist fs ∧ ∃ l, l.Sublist fs ∧ (ps ++ ts).Perm l
def pairD (ps ts : List D) : D := .tup [.tup ps, .tup ts]
def sp__law_pair : Spec := fun ds st P _ => ∃ a fs share, ds = [.loc a, .tup fs, .int share] ∧ fs.length ≤ 1000 ∧ 0 < share ∧ share < 1073741824 ∧ Dr st a ∧ ∀ ps ts st', PairOf fs ps ts → Keep a st st' → P (pairD ps ts) st'
theorem Keep.bump {a b : Addr} {st st' : Store} {o : Ob} (h : Keep a st st') (hn : st b = none) (hb : b ≠ a) : Keep a st (st'.set b o) := by
  obtain ⟨u, v, e⟩ := h.dr
  refine ⟨⟨u, v, by rw [set_ne hb.symm]; exact e⟩, fun c o' hc e' => ?_⟩
  rw [set_ne (fun z => by rw [z, hn] at e'; cases e')]
  exact h.ob c o' hc e'
theorem PairOf.put {fs ps ts : List D} {x : D} (h : PairOf fs ps ts) : PairOf (fs ++ [x]) (ps ++ [x]) ts := by
  obtain ⟨h1, h2, l, h3, h4⟩ := h
  refine ⟨h1.append (List.Sublist.refl _), h2.trans (List.sublist_append_left _ _), l ++ [x], h3.append (List.Sublist.refl _), ?_⟩
  have : (ps ++ [x] ++ ts).Perm (ps ++ ts ++ [x]) := by
    rw [List.append_assoc, List.append_assoc]
    exact List.Perm.append_left _ List.perm_append_comm
  exact this.trans (h4.append_right _)
theorem PairOf.take {fs ps ts : List D} {x : D} (h : PairOf fs ps ts) : PairOf (fs ++ [x]) ps (ts ++ [x]) := by
  obtain ⟨h1, h2, l, h3, h4⟩ := h
  refine ⟨h1.trans (List.sublist_append_left _ _), h2.append (List.Sublist.refl _), l ++ [x], h3.append (List.Sublist.refl _), ?_⟩
  rw [← List.append_assoc]
  exact h4.append_right _
theorem PairOf.skip {fs ps ts : List D} {x : D} (h : PairOf fs ps ts) : PairOf (fs ++ [x]) ps ts := by
  obtain ⟨h1, h2, l, h3, h4⟩ := h
  exact ⟨h1.trans (List.sublist_append_left _ _), h2.trans (List.sublist_append_left _ _), l, h3.trans (List.sublist_append_left _ _), h4⟩
theorem take_snoc {fs : List D} {i : Nat} {d : D} (h : fs[i]? = some d) : fs.take (i + 1) = fs.take i ++ [d] := by
  rw [List.take_add_one, h]; rfl
theorem d__law_pair (h1 : Γ.fn "_law_draw" = some sp__law_draw) : Does Γ 6 3 b__law_pair sp__law_pair := by
  rintro ds st P ⟨a, fs, share, rfl, hl, hs1, hs2, hd, hP⟩
  refine ⟨rfl, ?_⟩
  unfold b__law_pair
  rw [denSs, denS]
  simp only [den, denP, denEs, asg]
  refine ⟨by decide, fun p hp => ⟨by decide, fun q hq => ⟨by simp; decide, fun c hc => ?_⟩⟩⟩
  obtain ⟨u0, v0, ea⟩ := hd
  have npa : p ≠ a := fun z => by rw [z, ea] at hp; cases hp
  have hq0 : q ≠ p ∧ st q = none := by
    by_cases z : q = p
    · rw [z, Store.set_same] at hq; cases hq
    · exact ⟨z, by rw [set_ne z] at hq; exact hq⟩
  have nqa : q ≠ a := fun z => by rw [z, ea] at hq0; cases hq0.2
  have hc0 : c ≠ q ∧ c ≠ p ∧ st c = none := by
    by_cases z : c = q
    · rw [z, Store.set_same] at hc; cases hc
    · rw [set_ne z] at hc
      by_cases z2 : c = p
      · rw [z2, Store.set_same] at hc; cases hc
      · rw [set_ne z2] at hc; exact ⟨z, z2, hc⟩
  have nca : c ≠ a := fun z => by rw [z, ea] at hc0; cases hc0.2.2
  rw [denSs, denS]
  have k0 : Keep a st (((st.set p (.lst [])).set q (.lst [])).set c (.lst [.loc p, .loc q])) :=
    (((Keep.refl ⟨u0, v0, ea⟩).bump hp npa).bump hq0.2 nqa).bump hc0.2.2 nca
  simp [denI, den, startE, items1]
  refine forL_inv (fun i ρ st' => ∃ ps ts o4 o5, ρ = [some (.loc a), some (.tup fs), some (.int share), some (.loc c), o4, o5] ∧ Keep a st st' ∧ st' p = some (.lst ps) ∧ st' q = some (.lst ts) ∧ st' c = some (.lst [.loc p, .loc q]) ∧ PairOf (fs.take i) ps ts) fs 0 _ _
    ⟨[], [], none, none, rfl, k0, by rw [set_ne hc0.2.1.symm, set_ne hq0.1.symm, Store.set_same], by rw [set_ne hc0.1.symm, Store.set_same], Store.set_same, List.Sublist.refl _, List.Sublist.refl _, [], List.Sublist.refl _, List.Perm.refl _⟩ ?_ ?_
  · rintro i d ρ st1 N hi ⟨ps, ts, o4, o5, rfl, hk, ep, eq, ec, hpo⟩ hN
    rw [Nat.zero_add] at hpo hN
    have hil : i < fs.length := (List.getElem?_eq_some_iff.mp hi).1
    have hlp : ps.length ≤ 1000 := Nat.le_trans (hpo.1.length_le) (by rw [List.length_take]; omega)
    have hlt : ts.length ≤ 1000 := Nat.le_trans (hpo.2.1.length_le) (by rw [List.length_take]; omega)
    unfold b__law_pair_1
    simp only [asg]
    rw [denSs, denS]
    simp [den, denEs, h1, asg]
    refine ⟨a, share, rfl, hs1, hs2, hk.dr, fun r st2 hr0 hr1 hk2 => ?_⟩
    have ep2 := hk2.ob p _ npa ep
    have eq2 := hk2.ob q _ nqa eq
    have ec2 := hk2.ob c _ nca ec
    refine cons_ife (decide (r < 2)) (fun Q hQ => by simpa [den, ci_lt] using hQ) ?_
    by_cases hr : r < 2
    · simp only [hr, decide_true, if_true, denSs, denS, den]
      have hr' : r = 0 ∨ r = 1 := by omega
      rcases hr' with rfl | rfl
      · refine ix_loc ec2 at0 ⟨p, ps, rfl, ep2, ps, ep2, Nat.lt_of_le_of_lt hlp (by decide), ?_⟩
        refine hN _ _ ⟨ps ++ [d], ts, _, _, rfl, ?_, Store.set_same, by rw [set_ne hq0.1]; exact eq2, by rw [set_ne hc0.2.1]; exact ec2, ?_⟩
        · exact (hk.trans hk2).bump hp npa
        · rw [take_snoc hi]; exact hpo.put
      · refine ix_loc ec2 at1 ⟨q, ts, rfl, eq2, ts, eq2, Nat.lt_of_le_of_lt hlt (by decide), ?_⟩
        refine hN _ _ ⟨ps, ts ++ [d], _, _, rfl, ?_, by rw [set_ne hq0.1.symm]; exact ep2, Store.set_same, by rw [set_ne hc0.1]; exact ec2, ?_⟩
        · exact (hk.trans hk2).bump hq0.2 nqa
        · rw [take_snoc hi]; exact hpo.take
    · simp only [hr, decide_false, Bool.false_eq_true, if_false, denSs]
      exact hN _ _ ⟨ps, ts, _, _, rfl, hk.trans hk2, ep2, eq2, ec2, by rw [take_snoc hi]; exact hpo.skip⟩
  · rintro ρ st1 ⟨ps, ts, o4, o5, rfl, hk, ep, eq, ec, hpo⟩
    rw [Nat.zero_add, List.take_length] at hpo
    have sp : seqOf st1 (.loc p) = some ps := by show (match st1 p with | some (.lst xs) => some xs | _ => none) = _; rw [ep]
    have sq : seqOf st1 (.loc q) = some ts := by show (match st1 q with | some (.lst xs) => some xs | _ => none) = _; rw [eq]
    simp [denSs, denS, den, denEs]
    refine ix_loc ec at0 ⟨ps, sp, ix_loc ec at1 ⟨ts, sq, by decide, hP ps ts _ hpo hk⟩⟩
def sp__law_state : Spec := fun ds st P _ => ∃ a fs, ds = [.loc a, .tup fs] ∧ fs.length ≤ 1000 ∧ Dr st a ∧ ∀ xs st', xs.Sublist fs → Keep a st st' → P (.tup xs) st'
theorem d__law_state (h1 : Γ.fn "_law_draw" = some sp__law_draw) : Does Γ 3 2 b__law_state sp__law_state := by
  rintro ds st P ⟨a, fs, rfl, hl, hd, hP⟩
  refine ⟨rfl, ?_⟩
  simp [b__law_state, denSs, denS, den, denP, denI, denEs, startE, h1, items1, wipeE]
  refine turns_inv (fun i acc st' => acc.Sublist (fs.take i) ∧ Keep a st st') fs 0 st [] (Nat.zero_le _) (by simpa using sz1000 hl) ⟨List.nil_sublist _, Keep.refl hd⟩ ?_ ?_
  · rintro j d st1 acc k hj ⟨hs, hk⟩ h1 h2
    rw [Nat.zero_add] at hs h1 h2
    simp [asg]
    refine ⟨a, 2, rfl, by decide, by decide, hk.dr, fun r st2 hr0 hr1 hk2 => ?_⟩
    show cmpR st2 .Eq (.int r) (.int 0) _
    rw [ci_eq]
    by_cases hr : r = 0
    · simp only [hr, decide_true, if_true]
      exact h1 d st2 ⟨by rw [take_snoc hj]; exact hs.append (List.Sublist.refl _), hk.trans hk2⟩
    · simp only [hr, decide_false, Bool.false_eq_true, if_false]
      exact h2 st2 ⟨by rw [take_snoc hj]; exact hs.trans (List.sublist_append_left _ _), hk.trans hk2⟩
  · rintro acc st1 ⟨hs, hk⟩
    rw [Nat.zero_add, List.take_length] at hs
    exact ⟨acc, rfl, hP _ _ hs hk⟩
def sp__law_of : Spec := fun ds st P _ => ∃ a s xs, ds = [.loc a, s] ∧ (s = .tup xs ∨ s = .lst xs) ∧ 0 < xs.length ∧ xs.length ≤ 1000 ∧ Dr st a ∧ ∀ d st', d ∈ xs → Keep a st st' → P d st'
theorem seq_fr {st : Store} {s : D} {xs : List D} (h : s = .tup xs ∨ s = .lst xs) : seqOf st s = some xs := by
  rcases h with rfl | rfl <;> rfl
theorem at_ex {xs : List D} {r : Int} (h0 : 0 ≤ r) (h1 : r < xs.length) : ∃ d, d ∈ xs ∧ atI xs r = some d := by
  obtain ⟨n, rfl⟩ := Int.eq_ofNat_of_zero_le h0
  have hn : n < xs.length := by omega
  exact ⟨xs[n], List.getElem_mem hn, at_nat (List.getElem?_eq_getElem hn)⟩
theorem d__law_of (h1 : Γ.fn "_law_draw" = some sp__law_draw) : Does Γ 2 2 b__law_of sp__law_of := by
  rintro ds st P ⟨a, s, xs, rfl, hs, hl0, hl, hd, hP⟩
  refine ⟨rfl, ?_⟩
  simp [b__law_of, denSs, denS, den, denEs, startE, h1]
  refine .inl ⟨xs, seq_fr hs, ?_⟩
  refine ⟨a, xs.length, rfl, by omega, by omega, hd, fun r st' h0 h1 hk => ?_⟩
  obtain ⟨d, hm, e⟩ := at_ex h0 h1
  exact .inl ⟨xs, r, d, seq_fr hs, rfl, e, hP d st' hm hk⟩
/-! worlds -/
def FACTS : List D := [.str "dry", .str "fed", .str "lit", .str "open", .str "told", .str "warm"]
def DEEDS : List D := [.str "air", .str "bake", .str "call", .str "dig", .str "eat", .str "fix", .str "go", .str "heat"]
def MEDS : List D := [.str "mice", .str "rain", .str "thief", .str "wind"]
def DeedOk (fs : List D) (nm d : D) : Prop := ∃ (c : Int) (ps ts chs : List D), d = .tup [nm, .int c, pairD ps ts, .tup chs] ∧ 1 ≤ c ∧ c ≤ 1000 ∧ PairOf fs ps ts ∧ 1 ≤ chs.length ∧ chs.length ≤ 3 ∧ ∀ ch ∈ chs, ∃ ps ts, ch = pairD ps ts ∧ PairOf fs ps ts
def MedOk (fs : List D) (nm d : D) : Prop := ∃ ps ts ps' ts', d = .tup [nm, pairD ps ts, pairD ps' ts'] ∧ PairOf fs ps ts ∧ PairOf fs ps' ts'
def Each (R : D → D → Prop) (nms xs : List D) : Prop := ∀ (i : Nat) (d : D), xs[i]? = some d → ∃ nm, nms[i]? = some nm ∧ R nm d
def WorldOk (most : Int) (w : D) : Prop := ∃ (n : Nat) (ds ms : List D), 1 ≤ n ∧ (n : Int) ≤ most ∧ n ≤ 6 ∧ w = .tup [.tup (FACTS.take n), .tup ds, .tup ms] ∧ 1 ≤ ds.length ∧ ds.length ≤ 7 ∧ ms.length ≤ 4 ∧
  Each (DeedOk (FACTS.take n)) DEEDS ds ∧ Each (MedOk (FACTS.take n)) MEDS ms
def sp__law_world : Spec := fun ds st P _ => ∃ a most, ds = [.loc a, .int most] ∧ 0 < most ∧ most ≤ 6 ∧ Dr st a ∧ ∀ w st', WorldOk most w → Keep a st st' → P w st'
theorem cut_take {xs : List D} (k : Nat) : cutD xs none (some (k : Int)) = xs.take k := by
  unfold cutD
  rw [HT.sIx_nat]
  show (xs.drop 0).take (min k xs.length - 0) = _
  rw [List.drop_zero, Nat.sub_zero]
  by_cases h : k ≤ xs.length
  · rw [Nat.min_eq_left h]
  · rw [Nat.min_eq_right (by omega), List.take_length, List.take_of_length_le (by omega)]
theorem d__law_world (h1 : Γ.fn "_law_draw" = some sp__law_draw) (h2 : Γ.fn "_law_pair" = some sp__law_pair) : Does Γ 9 2 b__law_world sp__law_world := by
  rintro ds st P ⟨a, most, rfl, hm, hm6, hd, hP⟩
  refine ⟨rfl, ?_⟩
  unfold b__law_world
  rw [denSs, denS]
  simp only [den, denO, denEs, h1, startE, List.map_cons, List.map_nil, List.cons_append, List.nil_append, List.getElem?_cons_zero, List.getElem?_cons_succ, List.length_cons, List.length_nil]
  refine ⟨by decide, a, most, rfl, hm, by omega, hd, fun r st1 hr0 hr1 hk1 => ?_⟩
  obtain ⟨n0, rfl⟩ := Int.eq_ofNat_of_zero_le hr0
  refine ⟨_, rfl, ?_⟩
  have e1 : (1 : Int) + (n0 : Int) = ((n0 + 1 : Nat) : Int) := by omega
  simp only [slcR, e1]
  have ef : ([.str "dry", .str "fed", .str "lit", .str "open", .str "told", .str "warm"] : List D) = FACTS := rfl
  rw [ef, cut_take]
  generalize hn : n0 + 1 = n
  have hfl : (FACTS.take n).length ≤ 1000 := by rw [List.length_take]; exact Nat.le_trans (Nat.min_le_right _ _) (by decide)
  generalize hfs : FACTS.take n = fs at hfl ⊢
  have hn1 : 1 ≤ n := by omega
  have hnm : (n : Int) ≤ most := by omega
  simp only [asg]
  have ee : ((some (D.loc a) :: some (D.int most) :: List.replicate (9 - (0 + 1 + 1)) none).set 2 (some (.tup fs))) = [some (.loc a), some (.int most), some (.tup fs), none, none, none, none, none, none] := rfl
  rw [ee]
  -- deeds, meddlers = [], []
  rw [denSs, denS]
  simp only [denEs, den, denP]
  refine ⟨by decide, fun p hp => ⟨by decide, fun q hq => ⟨rfl, ?_⟩⟩⟩
  obtain ⟨u0, v0, ea⟩ := hk1.dr
  have npa : p ≠ a := fun z => by rw [z, ea] at hp; cases hp
  have hq0 : q ≠ p ∧ st1 q = none := by
    by_cases z : q = p
    · rw [z, Store.set_same] at hq; cases hq
    · exact ⟨z, by rw [set_ne z] at hq; exact hq⟩
  have nqa : q ≠ a := fun z => by rw [z, ea] at hq0; cases hq0.2
  have hnp : st p = none := by
    cases z : st p with
    | none => rfl
    | some o => rw [hk1.ob p o npa z] at hp; cases hp
  have hnq : st q = none := by
    cases z : st q with
    | none => rfl
    | some o => have := hk1.ob q o nqa z; rw [hq0.2] at this; cases this
  have k0 : Keep a st1 ((st1.set p (.lst [])).set q (.lst [])) := ((Keep.refl ⟨u0, v0, ea⟩).bump hp npa).bump hq0.2 nqa
  have ep0 : ((st1.set p (.lst [])).set q (.lst [])) p = some (.lst []) := by rw [set_ne hq0.1.symm, Store.set_same]
  have eq0 : ((st1.set p (.lst [])).set q (.lst [])) q = some (.lst []) := Store.set_same
  generalize (st1.set p (.lst [])).set q (.lst []) = st2 at k0 ep0 eq0 ⊢
  simp only [setAll, List.set]
  have hkp : ∀ {s s' : Store} {x : Addr} {o : Ob}, x ≠ a → s x = some o → Keep a s s' → s' x = some o := fun hx e k => k.ob _ _ hx e
  -- far
  rw [denSs, denS]
  simp only [den, denP, denEs, h1, List.getElem?_cons_zero]
  refine ⟨by decide, a, 3, rfl, by decide, by decide, k0.dr, fun r3 st3 hr30 hr31 hk3 => ?_⟩
  obtain ⟨far, hfar, hf⟩ : ∃ far : Int, (far = 1 ∨ far = 4 ∨ far = 1000) ∧ atI [D.int 1, .int 4, .int 1000] r3 = some (.int far) := by
    have : r3 = 0 ∨ r3 = 1 ∨ r3 = 2 := by omega
    rcases this with rfl | rfl | rfl
    · exact ⟨1, .inl rfl, at0⟩
    · exact ⟨4, .inr (.inl rfl), at1⟩
    · exact ⟨1000, .inr (.inr rfl), at2⟩
  refine .inl ⟨_, r3, _, rfl, rfl, hf, ?_⟩
  simp only [asg, List.set]
  -- for name in ..
  rw [denSs, denS]
  simp only [denI, den, denP, denO, denEs, h1, List.getElem?_cons_zero]
  refine ⟨by decide, a, 7, rfl, by decide, by decide, hk3.dr, fun r4 st4 hr40 hr41 hk4 => ?_⟩
  obtain ⟨n4, rfl⟩ := Int.eq_ofNat_of_zero_le hr40
  refine ⟨_, rfl, ?_⟩
  have e4 : (1 : Int) + (n4 : Int) = ((n4 + 1 : Nat) : Int) := by omega
  simp only [slcL, lstOf, e4]
  refine ⟨_, rfl, ?_⟩
  have ed : ([.str "air", .str "bake", .str "call", .str "dig", .str "eat", .str "fix", .str "go", .str "heat"] : List D) = DEEDS := rfl
  rw [ed, cut_take]
  have hdl : (DEEDS.take (n4 + 1)).length = n4 + 1 := by rw [List.length_take]; show min (n4 + 1) 8 = _; omega
  simp only [items1]
  refine forL_inv (fun i ρ st' => ∃ es o4 o7 o8, ρ = [some (.loc a), some (.int most), some (.tup fs), some (.int far), o4, some (.loc p), some (.loc q), o7, o8] ∧ Keep a st st' ∧ st' p = some (.lst es) ∧ st' q = some (.lst []) ∧ es.length = i ∧ Each (DeedOk fs) DEEDS es) _ 0 _ _
    ⟨[], none, none, none, rfl, hk1.trans (k0.trans (hk3.trans hk4)), hkp npa (hkp npa ep0 hk3) hk4, hkp nqa (hkp nqa eq0 hk3) hk4, rfl, fun i d h => by simp at h⟩ ?_ ?_
  · rintro i nm ρ st5 N hi ⟨es, o4, o7, o8, rfl, hk, ep, eq, el, he⟩ hN
    rw [Nat.zero_add] at el hN
    have hil : i < n4 + 1 := by have := (List.getElem?_eq_some_iff.mp hi).1; omega
    have hnm' : DEEDS[i]? = some nm := by rw [List.getElem?_take] at hi; rw [if_pos hil] at hi; exact hi
    unfold b__law_world_1
    simp only [asg, List.set]
    rw [denSs, denS]
    simp only [den, denP, denI, denEs, h1, h2, List.getElem?_cons_zero, List.getElem?_cons_succ]
    refine ⟨by decide, a, 4, rfl, by decide, by decide, hk.dr, fun r6 st6 hr60 hr61 hk6 => ?_⟩
    obtain ⟨m6, hm61, hm63, hf6⟩ : ∃ m6 : Nat, 1 ≤ m6 ∧ m6 ≤ 3 ∧ atI [D.int 1, .int 1, .int 2, .int 3] r6 = some (.int m6) := by
      have : r6 = 0 ∨ r6 = 1 ∨ r6 = 2 ∨ r6 = 3 := by omega
      rcases this with rfl | rfl | rfl | rfl
      · exact ⟨1, by decide, by decide, at0⟩
      · exact ⟨1, by decide, by decide, at1⟩
      · exact ⟨2, by decide, by decide, at2⟩
      · exact ⟨3, by decide, by decide, at3⟩
    refine .inl ⟨_, r6, _, rfl, rfl, hf6, m6, rfl, ⟨by omega, by omega⟩, ?_⟩
    have hrl : (rangeL 0 (m6 : Int).toNat).length = m6 := by simp [rangeL]
    refine turns_inv (fun i acc st' => acc.length = i ∧ Keep a st6 st' ∧ ∀ x ∈ acc, ∃ ps ts, x = pairD ps ts ∧ PairOf fs ps ts) _ 0 st6 [] (Nat.zero_le _) (by rw [hrl]; exact sz1000 (by omega)) ⟨rfl, Keep.refl hk6.dr, fun x hx => by cases hx⟩ ?_ ?_
    · rintro j d st7 acc k hj ⟨hal, hk7, hx7⟩ g1 g2
      simp only [asg, wipeE, List.set, List.getElem?_cons_zero, List.getElem?_cons_succ]
      refine ⟨a, fs, 3, rfl, hfl, by decide, by decide, hk7.dr, fun ps ts st8 hpo hk8 => ?_⟩
      refine g1 _ _ ⟨by rw [List.length_append, hal]; rfl, hk7.trans hk8, fun x hx => ?_⟩
      rcases List.mem_append.mp hx with hx | hx
      · exact hx7 x hx
      · rw [List.mem_singleton.mp hx]; exact ⟨ps, ts, rfl, hpo⟩
    · rintro chs st7 ⟨hcl, hk7, hch⟩
      rw [Nat.zero_add, hrl] at hcl
      have K7 := hk6.trans hk7
      simp only [asg, denSs, denS, den, denEs, h1, h2, List.getElem?_cons_zero, List.getElem?_cons_succ, List.set]
      have ep7 := K7.ob p _ npa ep
      refine ⟨p, es, rfl, ep7, a, far, rfl, by omega, by omega, hk7.dr, fun r8 st8 h80 h81 hk8 => ?_⟩
      simp only [opR]
      refine ⟨a, fs, 6, rfl, hfl, by decide, by decide, hk8.dr, fun ps ts st9 hpo hk9 => ?_⟩
      refine ⟨chs, rfl, by simp only [List.length_cons, List.length_nil]; decide, ?_⟩
      have K9 := hk8.trans hk9
      have ep9 := K9.ob p _ npa ep7
      have eq9 := K9.ob q _ nqa (K7.ob q _ nqa eq)
      have hlt : es.length < sizeLine := Nat.lt_of_le_of_lt (by omega : es.length ≤ 8) (by decide)
      refine ⟨es, ep9, hlt, ?_⟩
      refine hN _ _ ⟨es ++ [.tup [nm, .int (1 + r8), pairD ps ts, .tup chs]], _, _, _, rfl, ?_, Store.set_same, by rw [set_ne hq0.1]; exact eq9, by rw [List.length_append, el]; rfl, ?_⟩
      · exact (hk.trans (K7.trans K9)).bump hnp npa
      · intro i' d' hd'
        by_cases hi' : i' < es.length
        · rw [List.getElem?_append_left hi'] at hd'
          exact he i' d' hd'
        · have hi'' : i' = es.length := by
            have := (List.getElem?_eq_some_iff.mp hd').1
            rw [List.length_append, List.length_singleton] at this
            omega
          subst hi''
          rw [List.getElem?_append_right (Nat.le_refl _), Nat.sub_self] at hd'
          simp at hd'
          subst hd'
          rw [el]
          refine ⟨nm, hnm', 1 + r8, ps, ts, chs, rfl, by omega, by omega, hpo, by omega, by omega, hch⟩
  · rintro ρ st5 ⟨es, o4, o7, o8, rfl, hk, ep, eq, el, he⟩
    rw [Nat.zero_add, hdl] at el
    simp only [denSs, denS, denI, den, denP, denO, denEs, h1, List.getElem?_cons_zero]
    refine ⟨by decide, by decide, a, 5, rfl, by decide, by decide, hk.dr, fun r6 st6 h60 h61 hk6 => ?_⟩
    obtain ⟨m6, hm64, hf6⟩ : ∃ m6 : Nat, m6 ≤ 4 ∧ atI [D.int 0, .int 0, .int 1, .int 2, .int 4] r6 = some (.int m6) := by
      have : r6 = 0 ∨ r6 = 1 ∨ r6 = 2 ∨ r6 = 3 ∨ r6 = 4 := by omega
      rcases this with rfl | rfl | rfl | rfl | rfl
      · exact ⟨0, by decide, at0⟩
      · exact ⟨0, by decide, at1⟩
      · exact ⟨1, by decide, at2⟩
      · exact ⟨2, by decide, at3⟩
      · exact ⟨4, by decide, at_nat (i := 4) rfl⟩
    refine .inl ⟨_, r6, _, rfl, rfl, hf6, m6, rfl, ?_⟩
    simp only [slcL, lstOf]
    refine ⟨_, rfl, ?_⟩
    have ed' : ([.str "mice", .str "rain", .str "thief", .str "wind"] : List D) = MEDS := rfl
    rw [ed', cut_take]
    have hml : (MEDS.take m6).length = m6 := by rw [List.length_take]; show min m6 4 = _; omega
    simp only [items1]
    refine forL_inv (fun i ρ st' => ∃ ms o4, ρ = [some (.loc a), some (.int most), some (.tup fs), some (.int far), o4, some (.loc p), some (.loc q), o7, o8] ∧ Keep a st st' ∧ st' p = some (.lst es) ∧ st' q = some (.lst ms) ∧ ms.length = i ∧ Each (MedOk fs) MEDS ms) _ 0 _ _
      ⟨[], o4, rfl, hk.trans hk6, hk6.ob p _ npa ep, hk6.ob q _ nqa eq, rfl, fun i d h => by simp at h⟩ ?_ ?_
    · rintro i nm ρ st7 N hi ⟨ms, o4, rfl, hk7, ep7, eq7, el7, he7⟩ hN
      rw [Nat.zero_add] at el7 hN
      have hil : i < m6 := by have := (List.getElem?_eq_some_iff.mp hi).1; omega
      have hnm' : MEDS[i]? = some nm := by rw [List.getElem?_take] at hi; rw [if_pos hil] at hi; exact hi
      unfold b__law_world_2
      simp only [asg, denSs, denS, den, denEs, h2, List.getElem?_cons_zero, List.getElem?_cons_succ, List.set]
      refine ⟨q, ms, rfl, eq7, a, fs, 4, rfl, hfl, by decide, by decide, hk7.dr, fun ps ts st8 hpo hk8 => ?_⟩
      refine ⟨a, fs, 6, rfl, hfl, by decide, by decide, hk8.dr, fun ps' ts' st9 hpo' hk9 => ?_⟩
      have K9 := hk8.trans hk9
      have eq9 := K9.ob q _ nqa eq7
      have ep9 := K9.ob p _ npa ep7
      have hlt : ms.length < sizeLine := Nat.lt_of_le_of_lt (by omega : ms.length ≤ 8) (by decide)
      refine ⟨by simp only [List.length_cons, List.length_nil]; decide, ms, eq9, hlt, ?_⟩
      refine hN _ _ ⟨ms ++ [.tup [nm, pairD ps ts, pairD ps' ts']], _, rfl, (hk7.trans K9).bump hnq nqa, by rw [set_ne hq0.1.symm]; exact ep9, Store.set_same, by rw [List.length_append, el7]; rfl, ?_⟩
      intro i' d' hd'
      by_cases hi' : i' < ms.length
      · rw [List.getElem?_append_left hi'] at hd'
        exact he7 i' d' hd'
      · have hi'' : i' = ms.length := by
          have := (List.getElem?_eq_some_iff.mp hd').1
          rw [List.length_append, List.length_singleton] at this
          omega
        subst hi''
        rw [List.getElem?_append_right (Nat.le_refl _), Nat.sub_self] at hd'
        simp at hd'
        subst hd'
        rw [el7]
        exact ⟨nm, hnm', ps, ts, ps', ts', rfl, hpo, hpo'⟩
    · rintro ρ st7 ⟨ms, o4, rfl, hk7, ep7, eq7, el7, he7⟩
      rw [Nat.zero_add, hml] at el7
      have sp : seqOf st7 (.loc p) = some es := by show (match st7 p with | some (.lst xs) => some xs | _ => none) = _; rw [ep7]
      have sq : seqOf st7 (.loc q) = some ms := by show (match st7 q with | some (.lst xs) => some xs | _ => none) = _; rw [eq7]
      simp only [denSs, denS, den, denEs, List.getElem?_cons_zero, List.getElem?_cons_succ]
      refine ⟨es, sp, ms, sq, by simp only [List.length_cons, List.length_nil]; decide, hP _ _ ?_ hk7⟩
      exact ⟨n, es, ms, hn1, hnm, by omega, by rw [hfs], by omega, by omega, by omega, by rw [hfs]; exact he, by rw [hfs]; exact he7⟩
end
end G
/-! What is drawn: cases, things, changed things. -/
namespace G
open PySem PySem.Spec PyProof.Rows L2
section
variable {Γ : Ctx}
def caseD (w : D) (ps ts xs : List D) (sl me : Int) : D := .tup [w, pairD ps ts, .tup [.tup xs, .int sl, .int me]]
def CaseOk (most : Int) (c : D) : Prop := ∃ w ps ts xs sl me, c = caseD w ps ts xs sl me ∧ WorldOk most w ∧ PairOf (wFacts w) ps ts ∧ xs.Sublist (wFacts w) ∧ 0 ≤ sl ∧ sl < 3 ∧ 0 ≤ me ∧ me < 3
def sp__law_case : Spec := fun ds st P _ => ∃ a most, ds = [.loc a, .int most] ∧ 0 < most ∧ most ≤ 6 ∧ Dr st a ∧ ∀ c st', CaseOk most c → Keep a st st' → P c st'
theorem d__law_case (h1 : Γ.fn "_law_draw" = some sp__law_draw) (h2 : Γ.fn "_law_pair" = some sp__law_pair) (h3 : Γ.fn "_law_world" = some sp__law_world) (h4 : Γ.fn "_law_state" = some sp__law_state) : Does Γ 4 2 b__law_case sp__law_case := by
  rintro ds st P ⟨a, most, rfl, hm, hm6, hd, hP⟩
  refine ⟨rfl, ?_⟩
  simp only [b__law_case, denSs, denS, den, denEs, h1, h2, h3, h4, startE, List.map_cons, List.map_nil, List.cons_append, List.nil_append, List.getElem?_cons_zero, List.getElem?_cons_succ]
  refine ⟨a, most, rfl, hm, hm6, hd, fun w st1 hw hk1 => ?_⟩
  obtain ⟨n, es, ms, hn1, hnm, hn6, rfl, r1, r2, r3, r4, r5⟩ := id hw
  have hfl : (FACTS.take n).length ≤ 1000 := by rw [List.length_take]; exact Nat.le_trans (Nat.min_le_right _ _) (by decide)
  simp only [asg, List.set, List.getElem?_cons_zero, List.getElem?_cons_succ, List.length_cons, List.length_nil, List.replicate]
  refine ix_tupk at0 ⟨a, _, 4, rfl, hfl, by decide, by decide, hk1.dr, fun ps ts st2 hpo hk2 => ?_⟩
  refine ix_tupk at0 ⟨a, _, rfl, hfl, hk2.dr, fun xs st3 hxs hk3 => ?_⟩
  refine ⟨a, 3, rfl, by decide, by decide, hk3.dr, fun sl st4 s0 s1 hk4 => ?_⟩
  refine ⟨a, 3, rfl, by decide, by decide, hk4.dr, fun me st5 m0 m1 hk5 => ⟨by decide, by decide, ?_⟩⟩
  exact hP _ _ ⟨_, ps, ts, xs, sl, me, rfl, hw, hpo, hxs, s0, s1, m0, m1⟩ (hk1.trans (hk2.trans (hk3.trans (hk4.trans hk5))))
/-! things -/
def spT (n : Nat) : Spec := fun ds st P _ => ∃ a k, ds = [.loc a, .int (Nat.cast k)] ∧ k < n ∧ Dr st a ∧ ∀ d st', D.ok 60 (k + 2) d = true → Keep a st st' → P d st'
theorem ok_mkT {b n : Nat} {xs : List D} (hl : xs.length ≤ b) (h : ∀ x ∈ xs, D.ok b n x = true) : D.ok b (n + 1) (.tup xs) = true := by
  simp only [D.ok, Bool.and_eq_true, decide_eq_true_eq, oks_iff]; exact ⟨hl, h⟩
theorem ok_mkL {b n : Nat} {xs : List D} (hl : xs.length ≤ b) (h : ∀ x ∈ xs, D.ok b n x = true) : D.ok b (n + 1) (.lst xs) = true := by
  simp only [D.ok, Bool.and_eq_true, decide_eq_true_eq, oks_iff]; exact ⟨hl, h⟩
theorem ok_none {b n : Nat} {d : D} (h : d = .non ∨ (∃ t, d = .bl t) ∨ ∃ i, d = .int i) : D.ok b n d = true := by
  rcases h with rfl | ⟨t, rfl⟩ | ⟨i, rfl⟩ <;> (unfold D.ok; rfl)
theorem d__law_thing {n : Nat} (h1 : Γ.fn "_law_draw" = some sp__law_draw) (h2 : Γ.fn "_law_of" = some sp__law_of) (h3 : Γ.fn "_law_thing" = some (spT n)) : Does Γ 6 2 b__law_thing (spT (n + 1)) := by
  rintro ds st P ⟨a, k, rfl, hk, hd, hP⟩
  refine ⟨rfl, ?_⟩
  unfold b__law_thing
  rw [denSs, denS]
  simp only [den, denEs, h1, startE, List.map_cons, List.map_nil, List.cons_append, List.nil_append, List.getElem?_cons_zero, List.getElem?_cons_succ]
  refine ⟨a, 9, rfl, by decide, by decide, hd, fun way st1 w0 w1 hk1 => ?_⟩
  simp only [asg, List.set, List.length_cons, List.length_nil, List.replicate]
  refine cons_ife (decide (way < 6) || decide (k = 0)) (fun Q hQ => ?_) ?_
  · simp [den, denB]
    rw [ci_lt]
    cases z : decide (way < 6) with
    | true => simpa [z] using hQ
    | false =>
      simp only [z, Bool.false_or] at hQ ⊢
      simp
      rw [ci_eq]
      have : decide ((k : Int) = 0) = decide (k = 0) := by rw [Bool.eq_iff_iff]; simp
      rw [this]; exact hQ
  · cases z : (decide (way < 6) || decide (k = 0)) with
    | true =>
      simp only [if_true]
      simp only [denSs, denS, den, denP, denEs, h2, opR, asg, List.set, List.getElem?_cons_zero, List.getElem?_cons_succ]
      refine ⟨1, rfl, ⟨by decide, by decide, by decide⟩, by simp only [List.length_cons, List.length_nil]; decide, ?_⟩
      refine ⟨by decide, by decide, by decide, by decide, by simp only [List.length_cons, List.length_nil]; decide, by simp only [List.length_cons, List.length_nil]; decide, by simp only [List.length_cons, List.length_nil]; decide, by simp only [List.length_cons, List.length_nil]; decide, by simp only [List.length_cons, List.length_nil]; decide, by simp only [List.length_cons, List.length_nil]; decide, by simp only [List.length_cons, List.length_nil]; decide, by simp only [List.length_cons, List.length_nil]; decide, by simp only [List.length_cons, List.length_nil]; decide, ?_⟩
      refine ⟨_, _, rfl, rfl, by decide, a, _, _, rfl, .inr rfl, by decide, by decide, hk1.dr, fun d st2 hm hk2 => ?_⟩
      refine hP d st2 (D.ok.mono (Nat.le_refl 60) (n := 2) (by omega) (oks_iff.mp (?_ : D.oks 60 2 _ = true) d hm)) (hk1.trans hk2)
      decide +kernel
    | false =>
      simp only [Bool.or_eq_false_iff, decide_eq_false_iff_not] at z
      obtain ⟨k', rfl⟩ : ∃ k', k = k' + 1 := ⟨k - 1, by omega⟩
      simp only [Bool.false_eq_true, if_false]
      simp only [denSs, denS, den, denP, denI, denEs, h1, h3, opR, List.getElem?_cons_zero, List.getElem?_cons_succ]
      refine ⟨a, 4, rfl, by decide, by decide, hk1.dr, fun m st2 m0 m1 hk2 => ⟨m, rfl, ⟨by omega, by omega⟩, ?_⟩⟩
      have hrl : (rangeL 0 m.toNat).length = m.toNat := by simp [rangeL]
      refine turns_inv (fun i acc st' => acc.length = i ∧ Keep a st2 st' ∧ ∀ x ∈ acc, D.ok 60 (k' + 2) x = true) _ 0 st2 [] (Nat.zero_le _) (by rw [hrl]; exact sz1000 (by omega)) ⟨rfl, Keep.refl hk2.dr, fun x hx => by cases hx⟩ ?_ ?_
      · rintro j d st7 acc kk hj ⟨hal, hk7, hx7⟩ g1 g2
        simp only [asg, wipeE, List.set, List.getElem?_cons_zero, List.getElem?_cons_succ]
        refine ⟨a, k', by rw [show ((k' + 1 : Nat) : Int) - 1 = (k' : Int) by omega], by omega, hk7.dr, fun x st8 hx hk8 => ?_⟩
        refine g1 _ _ ⟨by rw [List.length_append, hal]; rfl, hk7.trans hk8, fun y hy => ?_⟩
        rcases List.mem_append.mp hy with hy | hy
        · exact hx7 y hy
        · rw [List.mem_singleton.mp hy]; exact hx
      · rintro xs st7 ⟨hcl, hk7, hx⟩
        rw [Nat.zero_add, hrl] at hcl
        have K7 := hk1.trans (hk2.trans hk7)
        have hT : D.ok 60 (k' + 1 + 2) (.tup xs) = true := ok_mkT (by omega) hx
        have hL : D.ok 60 (k' + 1 + 2) (.lst xs) = true := ok_mkL (by omega) hx
        simp only [asg, denSs, denS, den, denP, denEs, opR, List.set, List.getElem?_cons_zero, List.getElem?_cons_succ]
        refine ⟨xs, rfl, xs, rfl, by simp only [List.length_cons, List.length_nil]; decide, ?_⟩
        have : way = 6 ∨ way = 7 ∨ way = 8 := by omega
        rcases this with rfl | rfl | rfl
        · exact .inl ⟨_, _, _, rfl, rfl, at0, hP _ _ hL K7⟩
        · exact .inl ⟨_, _, _, rfl, rfl, at1, hP _ _ hT K7⟩
        · exact .inl ⟨_, _, _, rfl, rfl, at2, hP _ _ hT K7⟩
/-! changed things -/
def isSeq (d : D) : Prop := ∃ xs, d = .tup xs ∨ d = .lst xs
def spO (n : Nat) : Spec := fun ds st P _ => ∃ a x xs, ∃ k b m : Nat, ds = [.loc a, x, .int (Nat.cast k)] ∧ k < n ∧ (x = .tup xs ∨ x = .lst xs) ∧ D.ok b m x = true ∧ 60 ≤ b ∧ b ≤ 900 ∧ m ≤ 40 ∧ Dr st a ∧ ∀ y st', D.ok (b + 1) (m + 6) y = true → isSeq y → Keep a st st' → P y st'
theorem fzs_refl {st st' : Store} : ∀ xs : List D, Fzs st st' xs xs
  | [] => .nil
  | x :: xs => .cons (.refl x) (fzs_refl xs)
theorem Keep.drop {a c : Addr} {st st' : Store} (h : Keep a st st') (hn : st c = none) (hc : c ≠ a) : Keep a st (fun b => if b = c then none else st' b) := by
  obtain ⟨u, v, e⟩ := h.dr
  refine ⟨⟨u, v, by simp only [hc.symm, if_false]; exact e⟩, fun b o hb e' => ?_⟩
  have : b ≠ c := fun z => by rw [z, hn] at e'; cases e'
  simp only [this, if_false]
  exact h.ob b o hb e'
/-- bits is handed out, as a list or as a tuple -/
theorem fin_ret {a c : Addr} {st st' : Store} {x : D} {xs zs : List D} {b m : Nat} {P : Post} {ρ : Env} (h1 : ρ[1]? = some (some x)) (h3 : ρ[3]? = some (some (.loc c))) (hx : x = .tup xs ∨ x = .lst xs) (ok : OK x) (hk : Keep a st st') (hn : st c = none) (hc : c ≠ a) (e : st' c = some (.lst zs)) (hl : zs.length ≤ b) (hz : ∀ z ∈ zs, D.ok b m z = true)
    (hP : ∀ y st', D.ok b (m + 1) y = true → isSeq y → Keep a st st' → P y st') :
    den Γ X0 (.ite (.isi (.var 1) [.list]) (.frz (.var 3)) (.bi .tuple (.var 3))) ρ st' P ∧ den Γ X0 (.ite (.isi (.var 1) [.list]) (.bi .tuple (.var 3)) (.frz (.var 3))) ρ st' P := by
  have sq : seqOf st' (.loc c) = some zs := by show (match st' c with | some (.lst xs) => some xs | _ => none) = _; rw [e]
  have hT := hP (.tup zs) st' (ok_mkT hl hz) ⟨_, .inl rfl⟩ hk
  have hL := hP (.lst zs) (fun b => if b = c then none else st' b) (ok_mkL hl hz) ⟨_, .inr rfl⟩ (hk.drop hn hc)
  have frz : ∃ st2 y, (∀ a o, st2 a = some o → st' a = some o) ∧ Fz st' st2 (.loc c) y ∧ P y st2 := by
    refine ⟨_, _, fun b o z => ?_, .loc e (by simp) (fzs_refl zs), hL⟩
    split at z
    · cases z
    · exact z
  rcases hx with rfl | rfl
  · constructor
    · simp only [den, h1, h3, isTys_ok ok (show List.all [Ty.list] (fun t => !clsB t) = true from rfl)]
      exact ⟨false, rfl, zs, sq, hT⟩
    · simp only [den, h1, h3, isTys_ok ok (show List.all [Ty.list] (fun t => !clsB t) = true from rfl)]
      exact ⟨false, rfl, frz⟩
  · constructor
    · simp only [den, h1, h3, isTys_ok ok (show List.all [Ty.list] (fun t => !clsB t) = true from rfl)]
      exact ⟨true, rfl, frz⟩
    · simp only [den, h1, h3, isTys_ok ok (show List.all [Ty.list] (fun t => !clsB t) = true from rfl)]
      exact ⟨true, rfl, zs, sq, hT⟩
def b_oth_fin : Ss := .cons (.ret (.ite (.isi (.var 1) [.list]) (.frz (.var 3)) (.bi .tuple (.var 3)))) .nil
def b_oth_chain : S := (.ife (.cmp .Eq (.var 5) (.int 0)) (.cons (.exp (.popAt (.var 3) (.var 4))) .nil) (.cons (.ife (.cmp .Eq (.var 5) (.int 1)) (.cons (.exp (.ins (.var 3) (.var 4) (.idx (.var 3) (.var 4)))) .nil) (.cons (.ife (.cmp .Eq (.var 5) (.int 2)) (.cons (.slst (.var 3) (.var 4) (.bin .Add (.var 4) (.int 2)) (.fr (.rev (.fr (.slc (.var 3) (.at (.var 4)) (.at (.bin .Add (.var 4) (.int 2)))))))) .nil) (.cons (.ife (.cmp .Eq (.var 5) (.int 3)) (.cons (.sto (.var 3) (.var 4) (.call "_law_thing" (.cons (.var 0) (.cons (.int 2) .nil)))) .nil) (.cons (.ife (.bop true (.cons (.cmp .Eq (.var 5) (.int 4)) (.cons (.isi (.idx (.var 3) (.var 4)) [.str]) .nil))) (.cons (.asg (.var 6) (.idx (.var 3) (.var 4))) (.cons (.sto (.var 3) (.var 4) (.call "_law_of" (.cons (.var 0) (.cons (.fr (.disp (.cons (.bin .Add (.var 6) (.str "a")) (.cons (.slc (.var 6) (.at (.int 1)) .no) (.cons (.upper (.var 6)) (.cons (.str "") (.cons .non (.cons (.str "dry") (.cons (.str "zz") .nil))))))))) .nil)))) .nil)) (.cons (.ife (.bop true (.cons (.cmp .Lt (.var 5) (.int 6)) (.cons (.isi (.idx (.var 3) (.var 4)) [.int]) .nil))) (.cons (.asg (.var 7) (.idx (.var 3) (.var 4))) (.cons (.sto (.var 3) (.var 4) (.call "_law_of" (.cons (.var 0) (.cons (.fr (.disp (.cons (.bin .Add (.var 7) (.int 1)) (.cons (.bin .Sub (.var 7) (.int 1)) (.cons (.bin .Sub (.int 0) (.var 7)) (.cons (.bl true) (.cons (.bl false) (.cons .non (.cons (.mx false (.bin .Mult (.int 1000) (.var 7)) (.bin .Pow (.int 10) (.int 39))) .nil))))))))) .nil)))) .nil)) (.cons (.ife (.bop true (.cons (.cmp .Eq (.var 5) (.int 6)) (.cons (.isi (.idx (.var 3) (.var 4)) [.tuple]) .nil))) (.cons (.sto (.var 3) (.var 4) (.fr (.list (.idx (.var 3) (.var 4))))) .nil) (.cons (.ret (.ite (.isi (.var 1) [.list]) (.bi .tuple (.var 3)) (.frz (.var 3)))) .nil)) .nil)) .nil)) .nil)) .nil)) .nil)) .nil))
theorem oth_split : b__law_otherwise = .cons (.asg (.var 3) (.bx (.list (.var 1)))) (.cons (.ife (.cmp .Eq (.var 3) (.fr (.disp .nil))) (.cons (.ret (.tup (.cons (.call "_law_thing" (.cons (.var 0) (.cons (.int 1) .nil))) .nil))) .nil) .nil) (.cons (.asg (.var 4) (.call "_law_draw" (.cons (.var 0) (.cons (.bi .len (.var 3)) .nil)))) (.cons (.ife (.bop true (.cons (.isi (.idx (.var 3) (.var 4)) [.tuple, .list]) (.cons (.cmp .Gt (.var 2) (.int 0)) (.cons (.cmp .Gt (.call "_law_draw" (.cons (.var 0) (.cons (.int 5) .nil))) (.int 0)) .nil)))) (.cons (.sto (.var 3) (.var 4) (.call "_law_otherwise" (.cons (.var 0) (.cons (.idx (.var 3) (.var 4)) (.cons (.bin .Sub (.var 2) (.int 1)) .nil))))) b_oth_fin) .nil) (.cons (.asg (.var 5) (.call "_law_draw" (.cons (.var 0) (.cons (.int 8) .nil)))) (.cons b_oth_chain b_oth_fin))))) := rfl
/-- from a list, one spot changed -/
theorem set_ok {b m : Nat} {xs : List D} {j : Nat} {y : D} (h : ∀ x ∈ xs, D.ok b m x = true) (hy : D.ok b m y = true) : ∀ x ∈ xs.set j y, D.ok b m x = true := fun x hx => by
  rcases List.mem_or_eq_of_mem_set hx with hx | rfl
  · exact h x hx
  · exact hy
theorem ix_n {n : Nat} {j : Nat} (h : j < n) : ixN n (j : Int) = some j := by
  unfold ixN
  rw [if_pos (by omega), if_pos (by omega)]
  simp
theorem sto_lst {xs : List D} {j : Nat} {d : D} {k : Ob → Prop} (h : j < xs.length) (q : k (.lst (xs.set j d))) : stoR (.lst xs) (.int (j : Int)) d k := ⟨j, j, rfl, ix_n h, q⟩
theorem ascii_app {x y : Str} (hx : ascii x = true) (hy : ascii y = true) : ascii (x ++ y) = true := by
  unfold ascii at *
  show (x.cps ++ y.cps).all _ = true
  rw [Array.all_append, hx, hy]; rfl
theorem ascii_cut {x : Str} {lo hi : Option Int} (hx : ascii x = true) : ascii (cutS x lo hi) = true := by
  unfold ascii at *
  rw [Array.all_eq_true'] at *
  intro c hc
  apply hx
  unfold cutS at hc
  have hc := List.mem_of_mem_drop (List.mem_of_mem_take (by simpa using hc : c ∈ ((x.cps.toList.drop _).take _)))
  simpa using hc
theorem upper_ok {x : Str} (hx : ascii x = true) : ascii (Txt.upper x) = true ∧ (Txt.upper x).length = x.length := by
  have e : x = SX.S x.cps.toList := by cases x; rfl
  have ha : x.cps.toList.all (· < 128) = true := by
    unfold ascii at hx
    rw [Array.all_eq_true'] at hx
    rw [List.all_eq_true]
    intro c hc
    exact hx c (by simpa using hc)
  have eu : Txt.upper x = SX.S (x.cps.toList.map PyProof.Rows.up1) := by
    conv => lhs; rw [e]
    exact SX.upper_S ha
  rw [eu]
  refine ⟨?_, ?_⟩
  · unfold ascii
    rw [Array.all_eq_true']
    intro c hc
    have hc : c ∈ x.cps.toList.map PyProof.Rows.up1 := by simpa [SX.S] using hc
    obtain ⟨d, hd, rfl⟩ := List.mem_map.mp hc
    have := List.all_eq_true.mp ha d hd
    simp only [decide_eq_true_eq] at this ⊢
    unfold PyProof.Rows.up1
    split <;> omega
  · show (x.cps.toList.map PyProof.Rows.up1).toArray.size = x.cps.size
    simp
theorem wtest {ρ : Env} {st : Store} {way i : Nat} (h : ρ[5]? = some (some (.int (way : Int)))) : Ev Γ ρ st (.cmp .Eq (.var 5) (.int (i : Int))) (.bl (decide (way = i))) := fun Q hQ => by
  simp only [den, h, ci_eq]
  have : decide ((way : Int) = (i : Int)) = decide (way = i) := by rw [Bool.eq_iff_iff]; simp; omega
  rw [this]; exact hQ
/-- the ways of changing at one spot -/
theorem oth_chain (h1 : Γ.fn "_law_draw" = some sp__law_draw) (h2 : Γ.fn "_law_of" = some sp__law_of) (h3 : Γ.fn "_law_thing" = some (spT 4)) {a c : Addr} {st st' : Store} {x : D} {xs zs : List D} {b m way j : Nat} {P : Post} {o2 o6 o7 : Option D}
    (hx : x = .tup xs ∨ x = .lst xs) (ok : OK x) (hk : Keep a st st') (hn : st c = none) (hc : c ≠ a) (e : st' c = some (.lst zs)) (hj : j < zs.length) (hl : zs.length ≤ b) (hb : 60 ≤ b) (hb2 : b ≤ 900) (hm : 4 ≤ m) (hm2 : m ≤ 50) (hz : ∀ z ∈ zs, D.ok b m z = true)
    (hP : ∀ y st', D.ok (b + 1) (m + 1) y = true → isSeq y → Keep a st st' → P y st') :
    denS Γ X0 b_oth_chain { nx := fun ρ1 st1 => denSs Γ X0 b_oth_fin { nx := fun _ st => P .non st, rt := P } ρ1 st1, rt := P } [some (.loc a), some x, o2, some (.loc c), some (.int (j : Int)), some (.int (way : Int)), o6, o7] st' := by
  have hz' : ∀ z ∈ zs, D.ok (b + 1) m z = true := fun z h => D.ok.mono (by omega) (Nat.le_refl _) (hz z h)
  have fin : ∀ (ws : List D) (s2 : Store) (o6 o7 : Option D), Keep a st s2 → s2 c = some (.lst ws) → ws.length ≤ b + 1 → (∀ z ∈ ws, D.ok (b + 1) m z = true) → denSs Γ X0 b_oth_fin { nx := fun _ st => P .non st, rt := P } [some (.loc a), some x, o2, some (.loc c), some (.int (j : Int)), some (.int (way : Int)), o6, o7] s2 := fun ws s2 o6 o7 k2 e2 l2 z2 => by
    unfold b_oth_fin
    rw [denSs, denS]
    exact (fin_ret (Γ := Γ) rfl rfl hx ok k2 hn hc e2 l2 z2 hP).1
  have at' : ∀ {s2 : Store}, s2 c = some (.lst zs) → ∀ {k : D → Prop}, k zs[j] → idxR s2 (.loc c) (.int (j : Int)) k := fun e2 k q => ix_loc e2 (at_nat (List.getElem?_eq_getElem hj)) q
  have okj := hz zs[j] (List.getElem_mem hj)
  have okJ : OK zs[j] := ok_le okj (by omega) (by omega)
  unfold b_oth_chain
  refine ife_ev (decide (way = 0)) (wtest (i := 0) rfl) ?_
  cases w0 : decide (way = 0) with
  | true =>
    simp only [if_true, denSs, denS, den, List.getElem?_cons_zero, List.getElem?_cons_succ]
    refine ⟨c, zs, rfl, e, zs, j, zs[j], e, rfl, by omega, List.getElem?_eq_getElem hj, ?_⟩
    exact fin _ _ _ _ (hk.bump hn hc) Store.set_same (by rw [List.length_eraseIdx]; split <;> omega) fun z h => hz' z (List.mem_of_mem_eraseIdx h)
  | false =>
  simp only [Bool.false_eq_true, if_false]
  refine cons_ife (decide (way = 1)) (wtest (i := 1) rfl) ?_
  cases w1 : decide (way = 1) with
  | true =>
    simp only [if_true, denSs, denS, den, List.getElem?_cons_zero, List.getElem?_cons_succ]
    refine ⟨c, zs, rfl, e, at' e ⟨zs, j, e, rfl, by omega, by exact Nat.lt_of_le_of_lt (by omega : zs.length ≤ 900) (by decide), ?_⟩⟩
    refine fin _ _ _ _ (hk.bump hn hc) Store.set_same ?_ fun z h => ?_
    · rw [List.length_append, List.length_append, List.length_take, List.length_drop, List.length_singleton]; omega
    · rcases List.mem_append.mp h with h | h
      · rcases List.mem_append.mp h with h | h
        · exact hz' z (List.mem_of_mem_take h)
        · rw [List.mem_singleton.mp h]; exact hz' _ (List.getElem_mem hj)
      · exact hz' z (List.mem_of_mem_drop h)
  | false =>
  simp only [Bool.false_eq_true, if_false]
  rw [denSs]
  refine cons_ife (decide (way = 2)) (wtest (i := 2) rfl) ?_
  have sz900 : ∀ {n : Nat}, n ≤ 2000 → n < sizeLine := fun h => Nat.lt_of_le_of_lt h (by decide)
  cases w2 : decide (way = 2) with
  | true =>
    simp only [if_true, denSs, denS, den, denP, denO, opR, slcL, List.getElem?_cons_zero, List.getElem?_cons_succ]
    have lc : lstOf st' (.loc c) = some zs := by show (match st' c with | some (.lst xs) => some xs | _ => none) = _; rw [e]
    refine ⟨_, rfl, _, rfl, zs, lc, _, rfl, c, zs, _, j, j + 2, rfl, e, rfl, rfl, by rw [show ((j + 2 : Nat) : Int) = (j : Int) + 2 by omega], by omega, by omega, ?_, ?_⟩
    · rw [List.length_reverse]
      have : (cutD zs (some (j : Int)) (some ((j : Int) + 2))).length ≤ zs.length := by
        unfold cutD; rw [List.length_take, List.length_drop]; omega
      exact sz900 (by omega)
    · refine fin _ _ _ _ (hk.bump hn hc) Store.set_same ?_ fun z h => ?_
      · have : (cutD zs (some (j : Int)) (some ((j : Int) + 2))).length ≤ min (j + 2) zs.length - j := by
          unfold cutD
          rw [show ((j : Int) + 2) = ((j + 2 : Nat) : Int) by omega, HT.sIx_nat, HT.sIx_nat, List.length_take, List.length_drop]
          omega
        rw [List.length_append, List.length_append, List.length_take, List.length_drop, List.length_reverse]
        omega
      · rcases List.mem_append.mp h with h | h
        · rcases List.mem_append.mp h with h | h
          · exact hz' z (List.mem_of_mem_take h)
          · have h := List.mem_reverse.mp h
            unfold cutD at h
            exact hz' z (List.mem_of_mem_drop (List.mem_of_mem_take h))
        · exact hz' z (List.mem_of_mem_drop h)
  | false =>
  simp only [Bool.false_eq_true, if_false]
  rw [denSs]
  refine cons_ife (decide (way = 3)) (wtest (i := 3) rfl) ?_
  -- a new thing at the spot
  have put : ∀ (y : D) (s2 : Store) (o6 o7 : Option D), Keep a st' s2 → D.ok (b + 1) m y = true → stoR (.lst zs) (.int (j : Int)) y fun ob' => denSs Γ X0 b_oth_fin { nx := fun _ st => P .non st, rt := P } [some (.loc a), some x, o2, some (.loc c), some (.int (j : Int)), some (.int (way : Int)), o6, o7] (s2.set c ob') := fun y s2 o6 o7 k2 hy =>
    sto_lst hj (fin _ _ _ _ ((hk.trans k2).bump hn hc) Store.set_same (by rw [List.length_set]; omega) (set_ok hz' hy))
  cases w3 : decide (way = 3) with
  | true =>
    simp only [if_true, denSs, denS, den, denEs, h3, List.getElem?_cons_zero, List.getElem?_cons_succ]
    refine ⟨a, 2, rfl, by decide, hk.dr, fun y s2 hy k2 => ⟨c, _, rfl, k2.ob c _ hc e, put y s2 _ _ k2 (D.ok.mono (by omega) hm hy)⟩⟩
  | false =>
  simp only [Bool.false_eq_true, if_false]
  rw [denSs]
  refine cons_ife (decide (way = 4) && ty1 .str zs[j]) (fun Q hQ => ?_) ?_
  · rw [den, denB]
    refine wtest (i := 4) rfl _ ⟨_, rfl, ?_⟩
    cases w4 : decide (way = 4) with
    | false => simpa [w4] using hQ
    | true =>
      simp only [if_true, denB, den, List.getElem?_cons_zero, List.getElem?_cons_succ]
      refine at' e ?_
      rw [isTys_ok okJ (by rfl)]
      simpa [w4] using hQ
  cases w4 : (decide (way = 4) && ty1 .str zs[j]) with
  | true =>
    simp only [Bool.and_eq_true] at w4
    obtain ⟨z, hz4⟩ := ty_str.mp w4.2
    rw [hz4] at okj
    have hzz : ascii z = true ∧ z.length ≤ b := by simpa [D.ok] using okj
    simp only [if_true, denSs, denS, den, denP, denO, denEs, h2, opR, slcR, asg, List.set, List.getElem?_cons_zero, List.getElem?_cons_succ]
    refine at' e ?_
    rw [hz4]
    have hza : ("a" : Str).length = 1 := by decide +kernel
    refine ⟨Nat.le_of_lt (sz900 (by rw [hza]; omega)), 1, rfl, Nat.le_of_lt (sz900 (by omega)), z, rfl, by omega, by simp only [List.length_cons, List.length_nil]; decide, ?_⟩
    refine ⟨a, _, _, rfl, .inr rfl, by simp, by simp, hk.dr, fun y s2 hy k2 => ⟨c, _, rfl, k2.ob c _ hc e, put y s2 _ _ k2 ?_⟩⟩
    have hu := upper_ok hzz.1
    have hlit : ∀ w : Str, ascii w = true → w.length ≤ 60 → D.ok (b + 1) m (.str w) = true := fun w h1 h2 => by unfold D.ok; simp only [Bool.and_eq_true, decide_eq_true_eq]; exact ⟨h1, by omega⟩
    simp only [List.mem_cons, List.not_mem_nil, or_false] at hy
    rcases hy with rfl | rfl | rfl | rfl | rfl | rfl | rfl
    · unfold D.ok; simp only [Bool.and_eq_true, decide_eq_true_eq]
      refine ⟨ascii_app hzz.1 (by decide +kernel), ?_⟩
      have : (z ++ ("a" : Str)).length = z.length + 1 := by
        show (z.cps ++ ("a" : Str).cps).size = z.cps.size + 1
        rw [Array.size_append]; rfl
      omega
    · unfold D.ok; simp only [Bool.and_eq_true, decide_eq_true_eq]
      exact ⟨ascii_cut hzz.1, by have := cutS_length z (some 1) none; omega⟩
    · unfold D.ok; simp only [Bool.and_eq_true, decide_eq_true_eq]
      exact ⟨hu.1, by omega⟩
    · exact hlit _ (by decide +kernel) (by decide +kernel)
    · unfold D.ok; rfl
    · exact hlit _ (by decide +kernel) (by decide +kernel)
    · exact hlit _ (by decide +kernel) (by decide +kernel)
  | false =>
  simp only [Bool.false_eq_true, if_false]
  rw [denSs]
  refine cons_ife (decide (way < 6) && ty1 .int zs[j]) (fun Q hQ => ?_) ?_
  · rw [den, denB]
    simp only [den, denB, ci_lt, List.getElem?_cons_zero, List.getElem?_cons_succ]
    have ew : decide ((way : Int) < 6) = decide (way < 6) := by rw [Bool.eq_iff_iff]; simp; omega
    rw [ew]
    refine ⟨_, rfl, ?_⟩
    cases w5 : decide (way < 6) with
    | false => simpa [w5] using hQ
    | true =>
      simp only [if_true]
      refine at' e ?_
      rw [isTys_ok okJ (by rfl)]
      simpa [w5] using hQ
  cases w5 : (decide (way < 6) && ty1 .int zs[j]) with
  | true =>
    simp only [Bool.and_eq_true] at w5
    have hpow : CPow 10 39 := ⟨by decide, by decide, by decide⟩
    rcases ty_int.mp w5.2 with ⟨i, hi⟩ | ⟨t, ht⟩
    · simp only [if_true, denSs, denS, den, denP, denO, denEs, h2, asg, List.set, List.getElem?_cons_zero, List.getElem?_cons_succ]
      refine at' e ?_
      rw [hi]
      simp only [opR]
      refine ⟨.inl (.inl ⟨by decide, by decide⟩), hpow, _, _, rfl, rfl, by simp only [List.length_cons, List.length_nil]; decide, ?_⟩
      refine ⟨a, _, _, rfl, .inr rfl, by simp, by simp, hk.dr, fun y s2 hy k2 => ⟨c, _, rfl, k2.ob c _ hc e, put y s2 _ _ k2 ?_⟩⟩
      simp only [List.mem_cons, List.not_mem_nil, or_false] at hy
      apply ok_none
      rcases hy with rfl | rfl | rfl | rfl | rfl | rfl | rfl
      · exact .inr (.inr ⟨_, rfl⟩)
      · exact .inr (.inr ⟨_, rfl⟩)
      · exact .inr (.inr ⟨_, rfl⟩)
      · exact .inr (.inl ⟨_, rfl⟩)
      · exact .inr (.inl ⟨_, rfl⟩)
      · exact .inl rfl
      · exact .inr (.inr ⟨_, rfl⟩)
    · simp only [if_true, denSs, denS, den, denP, denO, denEs, h2, asg, List.set, List.getElem?_cons_zero, List.getElem?_cons_succ]
      refine at' e ?_
      rw [ht]
      simp only [opR]
      refine ⟨hpow, _, _, rfl, rfl, by simp only [List.length_cons, List.length_nil]; decide, ?_⟩
      refine ⟨a, _, _, rfl, .inr rfl, by simp, by simp, hk.dr, fun y s2 hy k2 => ⟨c, _, rfl, k2.ob c _ hc e, put y s2 _ _ k2 ?_⟩⟩
      simp only [List.mem_cons, List.not_mem_nil, or_false] at hy
      apply ok_none
      rcases hy with rfl | rfl | rfl | rfl | rfl | rfl | rfl
      · exact .inr (.inr ⟨_, rfl⟩)
      · exact .inr (.inr ⟨_, rfl⟩)
      · exact .inr (.inr ⟨_, rfl⟩)
      · exact .inr (.inl ⟨_, rfl⟩)
      · exact .inr (.inl ⟨_, rfl⟩)
      · exact .inl rfl
      · exact .inr (.inr ⟨_, rfl⟩)
  | false =>
  simp only [Bool.false_eq_true, if_false]
  rw [denSs]
  refine cons_ife (decide (way = 6) && ty1 .tuple zs[j]) (fun Q hQ => ?_) ?_
  · rw [den, denB]
    refine wtest (i := 6) rfl _ ⟨_, rfl, ?_⟩
    cases w4 : decide (way = 6) with
    | false => simpa [w4] using hQ
    | true =>
      simp only [if_true, denB, den, List.getElem?_cons_zero, List.getElem?_cons_succ]
      refine at' e ?_
      rw [isTys_ok okJ (by rfl)]
      simpa [w4] using hQ
  cases w6 : (decide (way = 6) && ty1 .tuple zs[j]) with
  | true =>
    simp only [Bool.and_eq_true] at w6
    obtain ⟨ys, hys⟩ := ty_tup.mp w6.2
    rw [hys] at okj
    simp only [if_true, denSs, denS, den, denP, List.getElem?_cons_zero, List.getElem?_cons_succ]
    refine at' e ?_
    rw [hys]
    refine ⟨ys, rfl, c, _, rfl, e, put _ _ _ _ (Keep.refl hk.dr) ?_⟩
    have := hz' zs[j] (List.getElem_mem hj)
    rw [hys] at this
    unfold D.ok at this ⊢
    exact this
  | false =>
    simp only [Bool.false_eq_true, if_false]
    rw [denSs, denS]
    exact (fin_ret (Γ := Γ) rfl rfl hx ok hk hn hc e (by omega : zs.length ≤ b + 1) hz' hP).2
theorem d__law_otherwise {n : Nat} (h1 : Γ.fn "_law_draw" = some sp__law_draw) (h2 : Γ.fn "_law_of" = some sp__law_of) (h3 : Γ.fn "_law_thing" = some (spT 4)) (h4 : Γ.fn "_law_otherwise" = some (spO n)) : Does Γ 8 3 b__law_otherwise (spO (n + 1)) := by
  rintro ds st P ⟨a, x, xs, k, b, m, rfl, hk, hx, okx, hb, hb2, hm, hd, hP⟩
  refine ⟨rfl, ?_⟩
  have OKx : OK x := ok_le okx (by omega) (by omega)
  obtain ⟨m, rfl, hl, hz⟩ : ∃ m', m = m' + 1 ∧ xs.length ≤ b ∧ ∀ z ∈ xs, D.ok b m' z = true := by
    rcases hx with rfl | rfl
    · obtain ⟨m', e, h, h'⟩ := ok_tup okx; exact ⟨m', by omega, h, h'⟩
    · obtain ⟨m', e, h, h'⟩ := ok_lst okx; exact ⟨m', by omega, h, h'⟩
  rw [oth_split, denSs, denS]
  simp only [den, denP, startE, List.map_cons, List.map_nil, List.cons_append, List.nil_append, List.getElem?_cons_zero, List.getElem?_cons_succ, List.length_cons, List.length_nil]
  refine ⟨xs, seq_fr hx, fun c hc => ?_⟩
  obtain ⟨u0, v0, ea⟩ := hd
  have hca : c ≠ a := fun z => by rw [z, ea] at hc; cases hc
  have k1 : Keep a st (st.set c (.lst xs)) := (Keep.refl ⟨u0, v0, ea⟩).bump hc hca
  have e1 : (st.set c (.lst xs)) c = some (.lst xs) := Store.set_same
  generalize st.set c (.lst xs) = st1 at k1 e1 ⊢
  simp only [asg, List.set, List.replicate]
  refine cons_ife xs.isEmpty (fun Q hQ => ?_) ?_
  · simp only [den, denP, denEs, List.getElem?_cons_zero, List.getElem?_cons_succ]
    refine ⟨by decide, ?_⟩
    have er : rsv st1 (.loc c) = .lst xs := by show (match st1 c with | some (.lst xs) => D.lst xs | _ => .loc c) = _; rw [e1]
    refine ⟨by rw [er]; exact D.ok.dat (n := m + 1) (by omega) (ok_mkL hl hz), by rfl, ?_⟩
    rw [er]
    show Q (.bl ((D.lst xs).eqv (.lst []))) st1
    rw [eqv_nil]; exact hQ
  cases hem : xs.isEmpty with
  | true =>
    simp only [if_true, denSs, denS, den, denEs, h3, List.getElem?_cons_zero]
    refine ⟨a, 1, rfl, by decide, k1.dr, fun y s2 hy k2 => ⟨by show 1 ≤ sizeLine; decide, ?_⟩⟩
    refine hP _ _ (ok_mkT (by show 1 ≤ b + 1; omega) fun z hz => ?_) ⟨_, .inl rfl⟩ (k1.trans k2)
    rw [List.mem_singleton.mp hz]
    exact D.ok.mono (by omega) (by omega) hy
  | false =>
  have hne : 0 < xs.length := by
    rcases xs with _ | ⟨z, zs⟩
    · cases hem
    · simp
  simp only [Bool.false_eq_true, if_false]
  rw [denSs]
  dsimp only
  rw [denSs, denS]
  simp only [den, denEs, h1, List.getElem?_cons_zero, List.getElem?_cons_succ]
  have sq1 : seqOf st1 (.loc c) = some xs := by show (match st1 c with | some (.lst xs) => some xs | _ => none) = _; rw [e1]
  refine .inl ⟨xs, sq1, a, xs.length, rfl, by omega, by omega, k1.dr, fun r st2 r0 r1 k2 => ?_⟩
  obtain ⟨j, rfl⟩ := Int.eq_ofNat_of_zero_le r0
  have hj : j < xs.length := by omega
  have K2 := k1.trans k2
  have e2 := k2.ob c _ hca e1
  simp only [asg, List.set]
  -- what follows if nothing within is changed
  have rest : ∀ (s3 : Store), Keep a st2 s3 → denSs Γ X0 (.cons (.asg (.var 5) (.call "_law_draw" (.cons (.var 0) (.cons (.int 8) .nil)))) (.cons b_oth_chain b_oth_fin)) { nx := fun _ st => P .non st, rt := P } [some (.loc a), some x, some (.int (k : Int)), some (.loc c), some (.int (j : Int)), none, none, none] s3 := by
    intro s3 k3
    rw [denSs, denS]
    simp only [den, denEs, h1, List.getElem?_cons_zero]
    refine ⟨a, 8, rfl, by decide, by decide, k3.dr, fun way s4 w0 w1 k4 => ?_⟩
    obtain ⟨way, rfl⟩ := Int.eq_ofNat_of_zero_le w0
    simp only [asg, List.set]
    rw [denSs]
    exact oth_chain (m := m + 4) h1 h2 h3 hx OKx (K2.trans (k3.trans k4)) hc hca (k4.ob c _ hca (k3.ob c _ hca e2)) hj hl hb hb2 (by omega) (by omega) (fun z h => D.ok.mono (Nat.le_refl _) (by omega) (hz z h)) fun y s5 hy hs k5 => hP y s5 (D.ok.mono (Nat.le_refl _) (by omega) hy) hs k5
  have okj := hz xs[j] (List.getElem_mem hj)
  have okJ : OK xs[j] := ok_le okj (by omega) (by omega)
  have at' : ∀ {s2 : Store}, s2 c = some (.lst xs) → ∀ {k : D → Prop}, k xs[j] → idxR s2 (.loc c) (.int (j : Int)) k := fun e2 k q => ix_loc e2 (at_nat (List.getElem?_eq_getElem hj)) q
  rw [denSs, denS]
  simp only [den, denB, List.getElem?_cons_zero, List.getElem?_cons_succ]
  refine at' e2 ?_
  rw [isTys_ok okJ (by rfl)]
  refine ⟨_, rfl, ?_⟩
  cases hs : ([Ty.tuple, Ty.list].any fun t => ty1 t xs[j]) with
  | false =>
    simp only [Bool.false_eq_true, if_false]
    refine ⟨_, rfl, ?_⟩
    simp only [Bool.false_eq_true, if_false, denSs]
    exact rest st2 (Keep.refl k2.dr)
  | true =>
    simp only [if_true]
    rw [ci_gt]
    refine ⟨_, rfl, ?_⟩
    cases hk0 : decide ((0 : Int) < (k : Int)) with
    | false =>
      simp only [Bool.false_eq_true, if_false]
      refine ⟨_, rfl, ?_⟩
      simp only [Bool.false_eq_true, if_false, denSs]
      exact rest st2 (Keep.refl k2.dr)
    | true =>
      simp only [if_true, denEs, den, h1, List.getElem?_cons_zero]
      refine ⟨a, 5, rfl, by decide, by decide, k2.dr, fun r st3 _ _ k3 => ?_⟩
      show cmpR st3 .Gt (.int r) (.int 0) _
      rw [ci_gt]
      refine ⟨_, rfl, ?_⟩
      cases hr : decide (0 < r) with
      | false =>
        simp only [Bool.false_eq_true, if_false, denSs]
        exact rest st3 k3
      | true =>
        simp only [if_true, denSs, denS, den, denEs, h4, List.getElem?_cons_zero, List.getElem?_cons_succ, opR]
        have e3 := k3.ob c _ hca e2
        refine at' e3 ?_
        obtain ⟨ys, hys⟩ : ∃ ys, xs[j] = .tup ys ∨ xs[j] = .lst ys := by
          simp only [List.any_cons, List.any_nil, Bool.or_false, Bool.or_eq_true] at hs
          rcases hs with h | h
          · obtain ⟨ys, h⟩ := ty_tup.mp h; exact ⟨ys, .inl h⟩
          · obtain ⟨ys, h⟩ := ty_lst.mp h; exact ⟨ys, .inr h⟩
        obtain ⟨k', rfl⟩ : ∃ k', k = k' + 1 := ⟨k - 1, by simp at hk0; omega⟩
        refine ⟨a, _, ys, k', b, m, by rw [show ((k' + 1 : Nat) : Int) - 1 = (k' : Int) by omega], by omega, hys, okj, hb, hb2, by omega, k3.dr, fun y s4 hy _ k4 => ?_⟩
        have K4 := K2.trans (k3.trans k4)
        have e4 := k4.ob c _ hca e3
        refine ⟨c, _, rfl, e4, sto_lst hj ?_⟩
        unfold b_oth_fin
        simp only [denSs, denS]
        exact (fin_ret (Γ := Γ) (b := b + 1) (m := m + 6) rfl rfl hx OKx (K4.bump hc hca) hc hca Store.set_same (by rw [List.length_set]; omega) (set_ok (fun z h => D.ok.mono (by omega) (by omega) (hz z h)) hy) fun y s hy hs k => hP y s (D.ok.mono (Nat.le_refl _) (by omega) hy) hs k).1
end
end G
/-! The law of worlds. -/
namespace G
open PySem PySem.Spec PyProof.Rows L2
theorem facts_ok {n : Nat} : ∀ x ∈ FACTS.take n, D.ok 60 0 x = true := fun x hx => by
  have h : D.oks 60 0 FACTS = true := by decide +kernel
  exact oks_iff.mp h x (List.mem_of_mem_take hx)
theorem facts_len {n : Nat} : (FACTS.take n).length ≤ 6 := by rw [List.length_take]; exact Nat.min_le_right _ _
theorem sub_ok {n : Nat} {xs : List D} (h : xs.Sublist (FACTS.take n)) : D.ok 60 1 (.tup xs) = true :=
  ok_mkT (Nat.le_trans h.length_le (Nat.le_trans facts_len (by decide))) fun x hx => facts_ok x (h.subset hx)
theorem pair_ok {n : Nat} {ps ts : List D} (h : PairOf (FACTS.take n) ps ts) : D.ok 60 2 (pairD ps ts) = true := by
  refine ok_mkT (by show 2 ≤ 60; decide) fun x hx => ?_
  simp only [List.mem_cons, List.not_mem_nil, or_false] at hx
  rcases hx with rfl | rfl
  · exact sub_ok h.1
  · exact sub_ok h.2.1
theorem nm_ok {L : List D} (hL : D.oks 60 0 L = true) {i : Nat} {nm : D} (h : L[i]? = some nm) {m : Nat} : D.ok 60 m nm = true := D.ok.mono (Nat.le_refl _) (Nat.zero_le _) (oks_iff.mp hL nm (List.mem_of_getElem? h))
theorem deed_ok {n i : Nat} {nm d : D} (hn : DEEDS[i]? = some nm) (h : DeedOk (FACTS.take n) nm d) : D.ok 60 4 d = true := by
  obtain ⟨c, ps, ts, chs, rfl, h1, h2, h3, h4, h5, h6⟩ := h
  refine ok_mkT (by show 4 ≤ 60; decide) fun x hx => ?_
  simp only [List.mem_cons, List.not_mem_nil, or_false] at hx
  rcases hx with rfl | rfl | rfl | rfl
  · exact nm_ok (by decide +kernel) hn
  · exact ok_none (.inr (.inr ⟨_, rfl⟩))
  · exact D.ok.mono (Nat.le_refl _) (by decide) (pair_ok h3)
  · refine ok_mkT (by omega) fun x hx => ?_
    obtain ⟨ps, ts, rfl, hp⟩ := h6 x hx
    exact pair_ok hp
theorem med_ok {n i : Nat} {nm d : D} (hn : MEDS[i]? = some nm) (h : MedOk (FACTS.take n) nm d) : D.ok 60 4 d = true := by
  obtain ⟨ps, ts, ps', ts', rfl, h3, h4⟩ := h
  refine ok_mkT (by show 3 ≤ 60; decide) fun x hx => ?_
  simp only [List.mem_cons, List.not_mem_nil, or_false] at hx
  rcases hx with rfl | rfl | rfl
  · exact nm_ok (by decide +kernel) hn
  · exact D.ok.mono (Nat.le_refl _) (by decide) (pair_ok h3)
  · exact D.ok.mono (Nat.le_refl _) (by decide) (pair_ok h4)
theorem each_ok {R : D → D → Prop} {nms xs : List D} {m : Nat} (h : Each R nms xs) (hR : ∀ (i : Nat) (nm d : D), nms[i]? = some nm → R nm d → D.ok 60 m d = true) : ∀ x ∈ xs, D.ok 60 m x = true := fun x hx => by
  obtain ⟨i, hi⟩ := List.mem_iff_getElem?.mp hx
  obtain ⟨nm, h1, h2⟩ := h i x hi
  exact hR i nm x h1 h2
theorem world_ok {most : Int} {w : D} (h : WorldOk most w) : ∃ n es ms, w = .tup [.tup (FACTS.take n), .tup es, .tup ms] ∧ D.ok 60 1 (.tup (FACTS.take n)) = true ∧ D.ok 60 5 (.tup es) = true ∧ D.ok 60 5 (.tup ms) = true ∧ D.ok 60 6 w = true := by
  obtain ⟨n, es, ms, h1, h2, h3, rfl, h4, h5, h6, h7, h8⟩ := h
  have a : D.ok 60 1 (.tup (FACTS.take n)) = true := sub_ok (List.Sublist.refl _)
  have b : D.ok 60 5 (.tup es) = true := ok_mkT (by omega) (each_ok h7 fun i nm d => deed_ok)
  have c : D.ok 60 5 (.tup ms) = true := ok_mkT (by omega) (each_ok h8 fun i nm d => med_ok)
  refine ⟨n, es, ms, rfl, a, b, c, ok_mkT (by show 3 ≤ 60; decide) fun x hx => ?_⟩
  simp only [List.mem_cons, List.not_mem_nil, or_false] at hx
  rcases hx with rfl | rfl | rfl
  · exact D.ok.mono (Nat.le_refl _) (by decide) a
  · exact b
  · exact c
/-- the context of the law -/
structure Kw (Γ : Ctx) : Prop where
  draws : Γ.fn "_law_draws" = some sp__law_draws
  draw : Γ.fn "_law_draw" = some sp__law_draw
  case_ : Γ.fn "_law_case" = some sp__law_case
  thing : Γ.fn "_law_thing" = some (spT 4)
  oth : Γ.fn "_law_otherwise" = some (spO 6)
  truly : Γ.fn "_law_truly" = some sp__law_truly
  isWorld : Γ.fn "is_world" = some sp_is_world
  lWorld : Γ.fn "_law_is_world" = some sp_is_world
  isState : Γ.fn "is_state" = some sp_is_state
  lSome : Γ.fn "_law_are_some" = some sp_are_some
  isCond : Γ.fn "is_condition" = some sp_is_condition
  lPair : Γ.fn "_law_is_pair" = some sp_is_pair
  isPlace : Γ.fn "is_place" = some sp_is_place
  lPlace : Γ.fn "_law_is_place" = some sp_is_place
section
variable {Γ : Ctx}
/-- the four loops of judging -/
theorem judge1 (C : Kw Γ) {o0 o1 o2 o3 o4 o5 o6 o8 o9 o10 o11 : Option D} {K : Kn} {ds : List D} {st : Store} {o7 : Option D} (h : ∀ d ∈ ds, OK d) (hK : ∀ o7, K.nx [o0, o1, o2, o3, o4, o5, o6, o7, o8, o9, o10, o11] st) :
    forL (.var 7) (fun ρ st K => denSs Γ X0 b_law_1 K ρ st) K CT ds [o0, o1, o2, o3, o4, o5, o6, o7, o8, o9, o10, o11] st := by
  refine forL_inv (fun _ ρ s => s = st ∧ ∃ o7, ρ = [o0, o1, o2, o3, o4, o5, o6, o7, o8, o9, o10, o11]) ds 0 _ _ ⟨rfl, _, rfl⟩ ?_ ?_
  · rintro j d ρ s N hj ⟨rfl, o7, rfl⟩ hN
    have hd := h d (List.mem_of_getElem? hj)
    unfold b_law_1
    simp only [asg, List.set]
    refine cons_ife false (fun Q hQ => ?_) ?_
    · simp only [den, denEs, C.isWorld, C.lWorld, C.truly, List.getElem?_cons_zero, List.getElem?_cons_succ]
      exact ⟨d, rfl, hd, d, rfl, hd, _, _, rfl, _, rfl, by simpa using hQ⟩
    · simp only [Bool.false_eq_true, if_false, denSs]
      exact hN _ _ ⟨rfl, _, rfl⟩
  · rintro ρ s ⟨rfl, o7, rfl⟩
    exact hK o7
theorem judge2 (C : Kw Γ) {o0 o1 o2 o3 o4 o5 o6 o9 o10 o11 : Option D} {fs r : List D} {K : Kn} {ds : List D} {st : Store} {o7 : Option D} (hw : OK (.tup fs)) (h : ∀ d ∈ ds, OK d) (hK : ∀ o7, K.nx [o0, o1, o2, o3, o4, o5, o6, o7, some (.tup (.tup fs :: r)), o9, o10, o11] st) :
    forL (.var 7) (fun ρ st K => denSs Γ X0 b_law_2 K ρ st) K CT ds [o0, o1, o2, o3, o4, o5, o6, o7, some (.tup (.tup fs :: r)), o9, o10, o11] st := by
  refine forL_inv (fun _ ρ s => s = st ∧ ∃ o7, ρ = [o0, o1, o2, o3, o4, o5, o6, o7, some (.tup (.tup fs :: r)), o9, o10, o11]) ds 0 _ _ ⟨rfl, _, rfl⟩ ?_ ?_
  · rintro j d ρ s N hj ⟨rfl, o7, rfl⟩ hN
    have hd := h d (List.mem_of_getElem? hj)
    unfold b_law_2
    simp only [asg, List.set]
    refine cons_ife false (fun Q hQ => ?_) ?_
    · simp only [den, denEs, C.isState, C.lSome, C.truly, List.getElem?_cons_zero, List.getElem?_cons_succ]
      exact ⟨_, d, rfl, ⟨fs, r, rfl, hw⟩, hd, ix_tupk at0 ⟨fs, d, rfl, hw, hd, _, _, rfl, _, rfl, by simpa [wFacts, tItems] using hQ⟩⟩
    · simp only [Bool.false_eq_true, if_false, denSs]
      exact hN _ _ ⟨rfl, _, rfl⟩
  · rintro ρ s ⟨rfl, o7, rfl⟩
    exact hK o7
theorem judge3 (C : Kw Γ) {o0 o1 o2 o3 o4 o5 o6 o9 o10 o11 : Option D} {fs r : List D} {K : Kn} {ds : List D} {st : Store} {o7 : Option D} (hw : OK (.tup fs)) (h : ∀ d ∈ ds, OK d) (hK : ∀ o7, K.nx [o0, o1, o2, o3, o4, o5, o6, o7, some (.tup (.tup fs :: r)), o9, o10, o11] st) :
    forL (.var 7) (fun ρ st K => denSs Γ X0 b_law_3 K ρ st) K CT ds [o0, o1, o2, o3, o4, o5, o6, o7, some (.tup (.tup fs :: r)), o9, o10, o11] st := by
  refine forL_inv (fun _ ρ s => s = st ∧ ∃ o7, ρ = [o0, o1, o2, o3, o4, o5, o6, o7, some (.tup (.tup fs :: r)), o9, o10, o11]) ds 0 _ _ ⟨rfl, _, rfl⟩ ?_ ?_
  · rintro j d ρ s N hj ⟨rfl, o7, rfl⟩ hN
    have hd := h d (List.mem_of_getElem? hj)
    unfold b_law_3
    simp only [asg, List.set]
    refine cons_ife false (fun Q hQ => ?_) ?_
    · simp only [den, denEs, C.isCond, C.lPair, C.truly, List.getElem?_cons_zero, List.getElem?_cons_succ]
      exact ⟨_, d, rfl, ⟨fs, r, rfl, hw⟩, hd, ix_tupk at0 ⟨fs, d, rfl, hw, hd, _, _, rfl, _, rfl, by simpa [wFacts, tItems] using hQ⟩⟩
    · simp only [Bool.false_eq_true, if_false, denSs]
      exact hN _ _ ⟨rfl, _, rfl⟩
  · rintro ρ s ⟨rfl, o7, rfl⟩
    exact hK o7
theorem judge4 (C : Kw Γ) {o0 o1 o2 o3 o4 o5 o6 o9 o10 o11 : Option D} {fs r : List D} {K : Kn} {ds : List D} {st : Store} {o7 : Option D} (hw : OK (.tup fs)) (h : ∀ d ∈ ds, OK d) (hK : ∀ o7, K.nx [o0, o1, o2, o3, o4, o5, o6, o7, some (.tup (.tup fs :: r)), o9, o10, o11] st) :
    forL (.var 7) (fun ρ st K => denSs Γ X0 b_law_4 K ρ st) K CT ds [o0, o1, o2, o3, o4, o5, o6, o7, some (.tup (.tup fs :: r)), o9, o10, o11] st := by
  refine forL_inv (fun _ ρ s => s = st ∧ ∃ o7, ρ = [o0, o1, o2, o3, o4, o5, o6, o7, some (.tup (.tup fs :: r)), o9, o10, o11]) ds 0 _ _ ⟨rfl, _, rfl⟩ ?_ ?_
  · rintro j d ρ s N hj ⟨rfl, o7, rfl⟩ hN
    have hd := h d (List.mem_of_getElem? hj)
    unfold b_law_4
    simp only [asg, List.set]
    refine cons_ife false (fun Q hQ => ?_) ?_
    · simp only [den, denEs, C.isPlace, C.lPlace, C.truly, List.getElem?_cons_zero, List.getElem?_cons_succ]
      exact ⟨_, d, rfl, ⟨fs, r, rfl, hw⟩, hd, _, d, rfl, ⟨fs, r, rfl, hw⟩, hd, _, _, rfl, _, rfl, by simpa using hQ⟩
    · simp only [Bool.false_eq_true, if_false, denSs]
      exact hN _ _ ⟨rfl, _, rfl⟩
  · rintro ρ s ⟨rfl, o7, rfl⟩
    exact hK o7
theorem Keep.lst {a c : Addr} {st : Store} {o : Ob} (h : Dr st a) (hc : c ≠ a) : Keep a (st.set c o) (st.set c o) := by
  obtain ⟨u, v, e⟩ := h
  exact Keep.refl ⟨u, v, by rw [set_ne hc.symm]; exact e⟩
theorem Dr.set {a c : Addr} {st : Store} {o : Ob} (h : Dr st a) (hc : c ≠ a) : Dr (st.set c o) a := by
  obtain ⟨u, v, e⟩ := h
  exact ⟨u, v, by rw [set_ne hc.symm]; exact e⟩
theorem d_law (C : Kw Γ) : Does Γ 12 1 b_law sp_law := by
  rintro ds st P ⟨xs, rfl, hi, hl, hP⟩
  refine ⟨rfl, ?_⟩
  unfold b_law
  rw [denSs, denS]
  simp only [denI, den, startE, List.map_cons, List.map_nil, List.cons_append, List.nil_append, List.getElem?_cons_zero, List.length_cons, List.length_nil]
  refine len_ro ?_
  refine ⟨_, _, rfl, rfl, _, _, rfl, rfl, _, rfl, ?_, ?_⟩
  · split <;> split <;> omega
  · refine forL_inv (fun _ ρ _ => ∃ o1 o2 o3 o4 o5 o6 o7 o8 o9 o10 o11, ρ = [some (.ro xs), o1, o2, o3, o4, o5, o6, o7, o8, o9, o10, o11]) _ 0 _ _ ⟨_, _, _, _, _, _, _, _, _, _, _, rfl⟩ ?_ ?_
    · rintro j d ρ st1 N hj ⟨o1, o2, o3, o4, o5, o6, o7, o8, o9, o10, o11, rfl⟩ hN
      obtain ⟨k, rfl⟩ : ∃ k : Nat, d = .int (k : Int) := by
        simp only [rangeL, List.getElem?_map, Option.map_eq_some_iff] at hj
        obtain ⟨i, _, rfl⟩ := hj
        exact ⟨i, by rw [Int.zero_add]⟩
      unfold b_law_5
      simp only [asg, List.set]
      -- draws, the case
      rw [denSs, denS]
      simp only [den, denEs, C.draws, List.getElem?_cons_zero, List.getElem?_cons_succ]
      refine ⟨xs, k, rfl, hi, fun a st2 _ hd2 _ => ?_⟩
      simp only [asg, List.set]
      rw [denSs, denS]
      simp only [den, denEs, C.case_, List.getElem?_cons_zero, List.getElem?_cons_succ]
      refine ⟨a, 6, rfl, by decide, by decide, hd2, fun c st3 hc hk3 => ?_⟩
      obtain ⟨w, ps, ts, ss, sl, me, rfl, hw, hpo, hss, s0, s1, m0, m1⟩ := hc
      obtain ⟨n, es, ms, rfl, okf, oke, okm, okw⟩ := world_ok hw
      simp only [caseD, asg, asgs, List.set, wFacts, tItems] at hpo hss ⊢
      have okg := pair_ok hpo
      have oks := sub_ok hss
      have okp : D.ok 60 2 (.tup [.tup ss, .int sl, .int me]) = true := ok_mkT (by show 3 ≤ 60; decide) fun x hx => by
        simp only [List.mem_cons, List.not_mem_nil, or_false] at hx
        rcases hx with rfl | rfl | rfl
        · exact oks
        · exact ok_none (.inr (.inr ⟨_, rfl⟩))
        · exact ok_none (.inr (.inr ⟨_, rfl⟩))
      have OKf : OK (.tup (FACTS.take n)) := ok_le okf
      generalize hfs : FACTS.take n = fs at *
      -- once
      rw [denSs, denS]
      simp only [den, denEs, C.oth, List.getElem?_cons_zero, List.getElem?_cons_succ]
      refine ⟨a, _, _, 5, 60, 6, rfl, by decide, .inl rfl, okw, by decide, by decide, by decide, hk3.dr, fun once st4 hon hseq hk4 => ?_⟩
      simp only [asg, List.set]
      -- idle
      refine cons_asg (.tup [.tup [], .tup []]) (fun Q hQ => by simp only [den, denEs]; exact ⟨by decide, by decide, by show 2 ≤ sizeLine; decide, hQ⟩) ?_
      simp only [List.set]
      have okonce : D.ok 61 12 once = true := hon
      obtain ⟨flen, flens⟩ : fs.length ≤ 60 ∧ ∀ x ∈ fs, D.ok 60 0 x = true := by
        obtain ⟨m, e, h1, h2⟩ := ok_tup okf
        cases e; exact ⟨h1, h2⟩
      have oidle : D.ok 60 2 (.tup [.tup [], .tup []]) = true := by decide +kernel
      -- things
      rw [denSs, denS]
      simp only [den, denP, denEs, C.thing, List.getElem?_cons_zero, List.getElem?_cons_succ]
      refine ⟨_, rfl, a, 3, rfl, by decide, hk4.dr, fun t1 st5 ht1 hk5 => ?_⟩
      refine ix_tupk at0 ⟨by show 1 ≤ sizeLine; decide, ?_⟩
      simp only [opR]
      refine ⟨by show fs.length + 1 ≤ sizeLine; exact sz1000 (by omega), ix_tupk at1 (ix_tupk at2 ⟨by show 3 ≤ sizeLine; decide, by show 5 ≤ sizeLine; decide, fun c hc => ?_⟩)⟩
      obtain ⟨u5, v5, ea5⟩ := hk5.dr
      have hca : c ≠ a := fun z => by rw [z, ea5] at hc; cases hc
      have hd6 : Dr (st5.set c (.lst [.tup [.tup fs, .tup es, .tup ms], once, .lst [.tup fs, .tup es, .tup ms], t1, .tup [.tup (fs ++ [.str "zz"]), .tup es, .tup ms]])) a := hk5.dr.set hca
      have e6 : (st5.set c (.lst [.tup [.tup fs, .tup es, .tup ms], once, .lst [.tup fs, .tup es, .tup ms], t1, .tup [.tup (fs ++ [.str "zz"]), .tup es, .tup ms]])) c = some (.lst [.tup [.tup fs, .tup es, .tup ms], once, .lst [.tup fs, .tup es, .tup ms], t1, .tup [.tup (fs ++ [.str "zz"]), .tup es, .tup ms]]) := Store.set_same
      have okl : ∀ x ∈ [D.tup fs, .tup es, .tup ms], D.ok 61 5 x = true := fun x hx => by
        simp only [List.mem_cons, List.not_mem_nil, or_false] at hx
        rcases hx with rfl | rfl | rfl
        · exact D.ok.mono (by decide) (by decide) okf
        · exact D.ok.mono (by decide) (by decide) oke
        · exact D.ok.mono (by decide) (by decide) okm
      have okz : D.ok 61 1 (.tup (fs ++ [.str "zz"])) = true := ok_mkT (by rw [List.length_append]; show fs.length + 1 ≤ 61; omega) fun x hx => by
        rcases List.mem_append.mp hx with hx | hx
        · exact D.ok.mono (by decide) (by decide) (flens x hx)
        · rw [List.mem_singleton.mp hx]; decide +kernel
      have all6 : ∀ x ∈ [D.tup [.tup fs, .tup es, .tup ms], once, .lst [.tup fs, .tup es, .tup ms], t1, .tup [.tup (fs ++ [.str "zz"]), .tup es, .tup ms]], OK x := fun x hx => by
        simp only [List.mem_cons, List.not_mem_nil, or_false] at hx
        rcases hx with rfl | rfl | rfl | rfl | rfl
        · exact ok_le okw
        · exact ok_le okonce
        · exact ok_le (ok_mkL (b := 61) (by show 3 ≤ 61; decide) okl)
        · exact ok_le ht1
        · refine ok_le (ok_mkT (b := 61) (n := 5) (by show 3 ≤ 61; decide) fun x hx => ?_)
          simp only [List.mem_cons, List.not_mem_nil, or_false] at hx
          rcases hx with rfl | rfl | rfl
          · exact D.ok.mono (by decide) (by decide) okz
          · exact D.ok.mono (by decide) (by decide) oke
          · exact D.ok.mono (by decide) (by decide) okm
      generalize st5.set c _ = st6 at hd6 e6 ⊢
      generalize hts : [D.tup [.tup fs, .tup es, .tup ms], once, .lst [.tup fs, .tup es, .tup ms], t1, .tup [.tup (fs ++ [.str "zz"]), .tup es, .tup ms]] = ts0 at e6 all6 ⊢
      have lts : ts0.length = 5 := by rw [← hts]; rfl
      clear hts
      simp only [asg, List.set]
      -- once more changed
      have sz : ∀ {n : Nat}, n ≤ 2000 → n < sizeLine := fun h => Nat.lt_of_le_of_lt h (by decide)
      have ap : ∀ Q : Post, (∀ y st7, OK y → Keep a st6 st7 → Q y st7) →
          den Γ X0 (.ite (.cmp .NotIn (.var 3) (.tup (.cons (.tup .nil) (.cons (.fr (.disp .nil)) .nil)))) (.call "_law_otherwise" (.cons (.var 2) (.cons (.var 3) (.cons (.int 5) .nil)))) (.var 3))
            [some (.ro xs), some (.int (k : Int)), some (.loc a), some once, some (.tup [.tup [], .tup []]), some (.loc c), o6, o7, some (.tup [.tup fs, .tup es, .tup ms]), some (pairD ps ts), some (.tup [.tup ss, .int sl, .int me]), o11] st6 Q := by
        intro Q hQ
        simp only [den, denP, denEs, C.oth, List.getElem?_cons_zero, List.getElem?_cons_succ]
        refine ⟨by decide, by decide, by show 2 ≤ sizeLine; decide, .inl ⟨_, rfl, D.ok.dat (n := 12) (by decide) okonce, by decide +kernel, ?_⟩⟩
        cases hq : (!([D.tup [], .lst []].any fun x => x.eqv once)) with
        | true =>
          refine ⟨true, rfl, ?_⟩
          simp only [if_true]
          obtain ⟨ys, hys⟩ := hseq
          exact ⟨a, once, ys, 5, 61, 12, rfl, by decide, hys, okonce, by decide, by decide, by decide, hd6, fun y st7 hy _ k7 => hQ y st7 (ok_le hy) k7⟩
        | false =>
          refine ⟨false, rfl, ?_⟩
          simp only [Bool.false_eq_true, if_false]
          exact hQ once st6 (ok_le okonce) (Keep.refl hd6)
      rw [denSs, denS, den, den]
      simp only [List.getElem?_cons_zero, List.getElem?_cons_succ]
      refine ⟨c, ts0, rfl, e6, ap _ fun y st7 hy k7 => ⟨ts0, k7.ob c _ hca e6, sz (by omega), ?_⟩⟩
      have hd8 : Dr (st7.set c (.lst (ts0 ++ [y]))) a := k7.dr.set hca
      have e8 : (st7.set c (.lst (ts0 ++ [y]))) c = some (.lst (ts0 ++ [y])) := Store.set_same
      have all8 : ∀ x ∈ ts0 ++ [y], OK x := fun x hx => by
        rcases List.mem_append.mp hx with hx | hx
        · exact all6 x hx
        · rw [List.mem_singleton.mp hx]; exact hy
      have l8 : (ts0 ++ [y]).length = 6 := by rw [List.length_append, lts]; rfl
      generalize st7.set c (.lst (ts0 ++ [y])) = st8 at hd8 e8 ⊢
      generalize ts0 ++ [y] = ts1 at e8 all8 l8 ⊢
      -- names
      rw [denSs, denS]
      simp only [den, denO, denEs, C.draw, List.getElem?_cons_zero, List.getElem?_cons_succ]
      refine ⟨a, 3, rfl, by decide, by decide, hd8, fun r st9 r0 r1 k9 => ⟨_, rfl, ?_⟩⟩
      have hst : ("abcdefghi" : Str).length = 9 := by decide +kernel
      simp only [slcR]
      refine ⟨by rw [hst]; decide, ?_⟩
      have anm : ascii (cutS "abcdefghi" none (some (7 + r))) = true := ascii_cut (by decide +kernel)
      have lnm : (cutS "abcdefghi" none (some (7 + r))).length ≤ 9 := by rw [← hst]; exact cutS_length _ _ _
      generalize cutS "abcdefghi" none (some (7 + r)) = nms at anm lnm ⊢
      have e9 := k9.ob c _ hca e8
      have hd9 := k9.dr
      have chok : ∀ {z : Str}, ascii z = true → ∀ d ∈ chars z, D.ok 60 0 d = true := fun hz d hd => by
        obtain ⟨q, hq, rfl⟩ := List.mem_map.mp hd
        unfold D.ok
        simp only [Bool.and_eq_true, decide_eq_true_eq]
        refine ⟨?_, by show 1 ≤ 60; decide⟩
        unfold ascii at hz ⊢
        rw [Array.all_eq_true'] at hz ⊢
        intro y hy
        have : y = q := by simpa using hy
        rw [this]
        exact hz q (by simpa using hq)
      simp only [asg, List.set]
      have mk3 : ∀ {p q : D}, D.ok 100 8 p = true → D.ok 100 8 q = true → OK (.tup [.tup fs, p, q]) := fun hp hq => ok_le (b := 100) (n := 9) (ok_mkT (by show 3 ≤ 100; decide) fun x hx => by
        simp only [List.mem_cons, List.not_mem_nil, or_false] at hx
        rcases hx with rfl | rfl | rfl
        · exact D.ok.mono (by decide) (by decide) okf
        · exact hp
        · exact hq)
      have onil : D.ok 100 8 (.tup []) = true := by decide +kernel
      have oidl : ∀ {m : Nat}, 2 ≤ m → D.ok 100 m (.tup [.tup [], .tup []]) = true := fun h => D.ok.mono (by decide) h oidle
      have oone : ∀ {m : Nat}, D.ok 100 m (.int 1) = true := by intro m; unfold D.ok; rfl
      have all_snoc : ∀ {ts : List D} {x : D}, (∀ z ∈ ts, OK z) → OK x → ∀ z ∈ ts ++ [x], OK z := fun h hx z hz => by
        rcases List.mem_append.mp hz with hz | hz
        · exact h z hz
        · rw [List.mem_singleton.mp hz]; exact hx
      -- deeds enough
      rw [denSs, denS]
      simp only [den, denP, denI, denEs, items1, wipeE, List.set, List.getElem?_cons_zero, List.getElem?_cons_succ]
      refine ⟨c, ts1, rfl, e9, ix_tupk at0 ?_⟩
      show turns _ _ (chars nms) st9 [] _
      refine turns_map (g := fun d => .tup [d, .int 1, .tup [.tup [], .tup []], .tup [.tup [.tup [], .tup []]]]) (chars nms) [] (by rw [chars_len]; exact sz1000 (by simp; omega)) (fun d hd kk hq => ?_) ?_
      · simp only [asg, List.set, List.getElem?_cons_zero, List.getElem?_cons_succ]
        exact ⟨by show 1 ≤ sizeLine; decide, by show 4 ≤ sizeLine; decide, hq⟩
      refine ⟨_, rfl, by show 0 ≤ sizeLine; decide, by show 3 ≤ sizeLine; decide, ts1, e9, sz (by omega), ?_⟩
      have o10 := mk3 (p := .tup ([] ++ (chars nms).map fun d => .tup [d, .int 1, .tup [.tup [], .tup []], .tup [.tup [.tup [], .tup []]]])) (ok_mkT (n := 7) (by simp [chars_len]; omega) fun x hx => by
        simp only [List.nil_append, List.mem_map] at hx
        obtain ⟨d, hd, rfl⟩ := hx
        refine ok_mkT (n := 6) (by show 4 ≤ 100; decide) fun x hx => ?_
        simp only [List.mem_cons, List.not_mem_nil, or_false] at hx
        rcases hx with rfl | rfl | rfl | rfl
        · exact D.ok.mono (by decide) (by decide) (chok anm _ hd)
        · exact oone
        · exact oidl (by decide)
        · exact ok_mkT (by show 1 ≤ 100; decide) fun x hx => by rw [List.mem_singleton.mp hx]; exact oidl (by decide)) onil
      generalize D.tup [.tup fs, .tup ([] ++ (chars nms).map fun d => .tup [d, .int 1, .tup [.tup [], .tup []], .tup [.tup [.tup [], .tup []]]]), .tup []] = y10 at o10 ⊢
      have hd10 : Dr (st9.set c (.lst (ts1 ++ [y10]))) a := hd9.set hca
      have e10 : (st9.set c (.lst (ts1 ++ [y10]))) c = some (.lst (ts1 ++ [y10])) := Store.set_same
      have all10 := all_snoc all8 o10
      have l10 : (ts1 ++ [y10]).length = 7 := by rw [List.length_append, l8]; rfl
      generalize st9.set c (.lst (ts1 ++ [y10])) = st10 at hd10 e10 ⊢
      generalize ts1 ++ [y10] = ts2 at e10 all10 l10 ⊢
      -- meddlers enough
      rw [denSs, denS]
      simp only [den, denP, denI, denO, denEs, C.draw, wipeE, List.set, List.getElem?_cons_zero, List.getElem?_cons_succ]
      refine ⟨c, ts2, rfl, e10, ix_tupk at0 ⟨by show 0 ≤ sizeLine; decide, a, 3, rfl, by decide, by decide, hd10, fun r' st11 r0' r1' k11 => ⟨_, rfl, ?_⟩⟩⟩
      simp only [slcR]
      refine ⟨Nat.le_of_lt (sz (by omega)), ?_⟩
      have anm2 : ascii (cutS nms none (some (3 + r'))) = true := ascii_cut anm
      have lnm2 : (cutS nms none (some (3 + r'))).length ≤ 9 := Nat.le_trans (cutS_length _ _ _) lnm
      generalize cutS nms none (some (3 + r')) = nms2 at anm2 lnm2 ⊢
      simp only [items1]
      show turns _ _ (chars nms2) st11 [] _
      refine turns_map (g := fun d => .tup [d, .tup [.tup [], .tup []], .tup [.tup [], .tup []]]) (chars nms2) [] (by rw [chars_len]; exact sz1000 (by simp; omega)) (fun d hd kk hq => ?_) ?_
      · simp only [asg, List.set, List.getElem?_cons_zero, List.getElem?_cons_succ]
        exact ⟨by show 3 ≤ sizeLine; decide, hq⟩
      have e11 := k11.ob c _ hca e10
      refine ⟨_, rfl, by show 3 ≤ sizeLine; decide, ts2, e11, sz (by omega), ?_⟩
      have o11' := mk3 (q := .tup ([] ++ (chars nms2).map fun d => .tup [d, .tup [.tup [], .tup []], .tup [.tup [], .tup []]])) onil (ok_mkT (n := 7) (by simp [chars_len]; omega) fun x hx => by
        simp only [List.nil_append, List.mem_map] at hx
        obtain ⟨d, hd, rfl⟩ := hx
        refine ok_mkT (n := 6) (by show 3 ≤ 100; decide) fun x hx => ?_
        simp only [List.mem_cons, List.not_mem_nil, or_false] at hx
        rcases hx with rfl | rfl | rfl
        · exact D.ok.mono (by decide) (by decide) (chok anm2 _ hd)
        · exact oidl (by decide)
        · exact oidl (by decide))
      generalize D.tup [.tup fs, .tup [], .tup ([] ++ (chars nms2).map fun d => .tup [d, .tup [.tup [], .tup []], .tup [.tup [], .tup []]])] = y11 at o11' ⊢
      have hd12 : Dr (st11.set c (.lst (ts2 ++ [y11]))) a := k11.dr.set hca
      have e12 : (st11.set c (.lst (ts2 ++ [y11]))) c = some (.lst (ts2 ++ [y11])) := Store.set_same
      have all12 := all_snoc all10 o11'
      have l12 : (ts2 ++ [y11]).length = 8 := by rw [List.length_append, l10]; rfl
      generalize st11.set c (.lst (ts2 ++ [y11])) = st12 at hd12 e12 ⊢
      generalize ts2 ++ [y11] = ts3 at e12 all12 l12 ⊢
      -- changes enough
      rw [denSs, denS]
      simp only [den, denEs, C.draw, opR, List.getElem?_cons_zero, List.getElem?_cons_succ]
      refine ⟨c, ts3, rfl, e12, ix_tupk at0 ⟨by show 1 ≤ sizeLine; decide, a, 3, rfl, by decide, by decide, hd12, fun r'' st13 r0'' r1'' k13 => ?_⟩⟩
      have e13 := k13.ob c _ hca e12
      refine ⟨by simp, by omega, by omega, by simp, by show 4 ≤ sizeLine; decide, by show 1 ≤ sizeLine; decide, by show 0 ≤ sizeLine; decide, by show 3 ≤ sizeLine; decide, ts3, e13, sz (by omega), ?_⟩
      have o13 := mk3 (p := .tup [.tup [.str "a", .int 1, .tup [.tup [], .tup []], .tup (List.replicate (2 + r'').toNat [D.tup [.tup [], .tup []]]).flatten]]) (ok_mkT (n := 7) (by show 1 ≤ 100; decide) fun x hx => by
        rw [List.mem_singleton.mp hx]
        refine ok_mkT (n := 6) (by show 4 ≤ 100; decide) fun x hx => ?_
        simp only [List.mem_cons, List.not_mem_nil, or_false] at hx
        rcases hx with rfl | rfl | rfl | rfl
        · decide +kernel
        · exact oone
        · exact oidl (by decide)
        · refine ok_mkT (n := 5) (by simp; omega) fun x hx => ?_
          simp only [List.mem_flatten, List.mem_replicate] at hx
          obtain ⟨l, ⟨_, rfl⟩, hx⟩ := hx
          rw [List.mem_singleton.mp hx]
          exact oidl (by decide)) onil
      generalize D.tup [.tup fs, .tup [.tup [.str "a", .int 1, .tup [.tup [], .tup []], .tup (List.replicate (2 + r'').toNat [D.tup [.tup [], .tup []]]).flatten]], .tup []] = y13 at o13 ⊢
      have hd14 : Dr (st13.set c (.lst (ts3 ++ [y13]))) a := k13.dr.set hca
      have e14 : (st13.set c (.lst (ts3 ++ [y13]))) c = some (.lst (ts3 ++ [y13])) := Store.set_same
      have all14 := all_snoc all12 o13
      generalize st13.set c (.lst (ts3 ++ [y13])) = st14 at hd14 e14 ⊢
      generalize ts3 ++ [y13] = ts4 at e14 all14 ⊢
      -- the things stand still from here
      rw [denSs, denS]
      simp only [List.getElem?_cons_zero, List.getElem?_cons_succ]
      refine ⟨fun b => if b = c then none else st14 b, .lst ts4, fun b o z => by dsimp only at z; split at z <;> first | cases z | exact z, .loc e14 (by simp) (fzs_refl ts4), ?_⟩
      have hd15 : Dr (fun b => if b = c then none else st14 b) a := by
        obtain ⟨u, v, e⟩ := hd14
        exact ⟨u, v, by simp only [hca.symm, if_false]; exact e⟩
      generalize (fun b => if b = c then none else st14 b) = st15 at hd15 ⊢
      simp only [List.set]
      rw [denSs, denS]
      simp only [denI, den, items1, List.getElem?_cons_zero, List.getElem?_cons_succ]
      refine judge1 C all14 fun o7 => ?_
      have okP : OK (.tup [.tup ss, .int sl, .int me]) := ok_le okp
      have okG : OK (pairD ps ts) := ok_le okg
      obtain ⟨ssl, ssk⟩ : ss.length ≤ 60 ∧ ∀ x ∈ ss, D.ok 60 0 x = true := by
        obtain ⟨m, e, h1, h2⟩ := ok_tup oks
        cases e; exact ⟨h1, h2⟩
      -- states
      dsimp only
      rw [denSs, denS]
      simp only [denI, den, denP, denEs, C.oth, C.thing, List.getElem?_cons_zero, List.getElem?_cons_succ]
      refine ix_tupk at0 (ix_tupk at0 ⟨a, _, ss, 0, 60, 1, rfl, by decide, .inl rfl, oks, by decide, by decide, by decide, hd15, fun q1 st16 hq1 _ k16 => ?_⟩)
      refine ix_tupk at0 ⟨ss, rfl, a, 2, rfl, by decide, k16.dr, fun q2 st17 hq2 k17 => ⟨by show 5 ≤ sizeLine; decide, ?_⟩⟩
      simp only [items1]
      refine judge2 C OKf (fun x hx => ?_) fun o7 => ?_
      · simp only [List.mem_cons, List.not_mem_nil, or_false] at hx
        rcases hx with rfl | rfl | rfl | rfl | rfl
        · exact ok_le oks
        · exact ok_le hq1
        · exact ok_le (ok_mkL ssl ssk)
        · exact ok_le hq2
        · exact okG
      -- conditions
      dsimp only
      rw [denSs, denS]
      simp only [denI, den, denP, denEs, C.oth, C.thing, pairD, revR, List.getElem?_cons_zero, List.getElem?_cons_succ]
      refine ⟨a, _, _, 1, 60, 2, rfl, by decide, .inl rfl, okg, by decide, by decide, by decide, k17.dr, fun q3 st18 hq3 _ k18 => ?_⟩
      refine ⟨_, rfl, a, 2, rfl, by decide, k18.dr, fun q4 st19 hq4 k19 => ?_⟩
      refine ix_tupk at0 (ix_tupk at0 ⟨by show 2 ≤ sizeLine; decide, by show 6 ≤ sizeLine; decide, ?_⟩)
      simp only [items1]
      have opt := sub_ok (n := n) (xs := ps) (by rw [hfs]; exact hpo.1)
      have ott := sub_ok (n := n) (xs := ts) (by rw [hfs]; exact hpo.2.1)
      have two : ∀ {p q : D}, D.ok 60 1 p = true → D.ok 60 1 q = true → ∀ x ∈ [p, q], D.ok 60 1 x = true := fun hp hq x hx => by
        simp only [List.mem_cons, List.not_mem_nil, or_false] at hx
        rcases hx with rfl | rfl
        · exact hp
        · exact hq
      refine judge3 C OKf (fun x hx => ?_) fun o7 => ?_
      · simp only [List.mem_cons, List.not_mem_nil, or_false] at hx
        rcases hx with rfl | rfl | rfl | rfl | rfl | rfl
        · exact okG
        · exact ok_le hq3
        · exact ok_le (ok_mkL (b := 60) (by show 2 ≤ 60; decide) (two opt ott))
        · exact ok_le hq4
        · exact ok_le (ok_mkT (b := 60) (by show 2 ≤ 60; decide) (two opt opt))
        · exact ok_le (ok_mkT (b := 60) (by show 2 ≤ 60; decide) (two ott opt))
      -- places
      dsimp only
      rw [denSs, denS]
      simp only [denI, den, denP, denEs, C.oth, C.thing, List.getElem?_cons_zero, List.getElem?_cons_succ]
      refine ⟨a, _, _, 1, 60, 2, rfl, by decide, .inl rfl, okp, by decide, by decide, by decide, k19.dr, fun q5 st20 hq5 _ k20 => ?_⟩
      refine ⟨_, rfl, a, 2, rfl, by decide, k20.dr, fun q6 st21 hq6 k21 => ?_⟩
      refine ix_tupk at0 ⟨by show 3 ≤ sizeLine; decide, by show 5 ≤ sizeLine; decide, ?_⟩
      simp only [items1]
      have trip : ∀ {i j : Int}, ∀ x ∈ [D.tup ss, .int i, .int j], D.ok 60 1 x = true := fun x hx => by
        simp only [List.mem_cons, List.not_mem_nil, or_false] at hx
        rcases hx with rfl | rfl | rfl
        · exact oks
        · exact ok_none (.inr (.inr ⟨_, rfl⟩))
        · exact ok_none (.inr (.inr ⟨_, rfl⟩))
      refine judge4 C OKf (fun x hx => ?_) fun o7 => ?_
      · simp only [List.mem_cons, List.not_mem_nil, or_false] at hx
        rcases hx with rfl | rfl | rfl | rfl | rfl
        · exact okP
        · exact ok_le hq5
        · exact ok_le (ok_mkL (b := 60) (by show 3 ≤ 60; decide) trip)
        · exact ok_le hq6
        · exact ok_le (ok_mkT (b := 60) (by show 3 ≤ 60; decide) trip)
      dsimp only
      rw [denSs]
      exact hN _ _ ⟨_, _, _, _, _, _, _, _, _, _, _, rfl⟩
    · rintro ρ st1 ⟨o1, o2, o3, o4, o5, o6, o7, o8, o9, o10, o11, rfl⟩
      simp only [denSs, denS, den]
      exact hP _
end
end G
/-! Worlds, places as plain Lean things; orders; what they look like as values. -/
namespace G
open PySem
/-! ### strict orders -/
structure STO {α : Type} (lt : α → α → Bool) : Prop where
  irr : ∀ a, lt a a = false
  tr : ∀ a b c, lt a b = true → lt b c = true → lt a c = true
  tri : ∀ a b, lt a b = false → lt b a = false → a = b
section
variable {α : Type} {lt : α → α → Bool}
theorem STO.asym (h : STO lt) {a b : α} (e : lt a b = true) : lt b a = false := by
  cases q : lt b a with
  | false => rfl
  | true => have := h.tr _ _ _ e q; rw [h.irr] at this; cases this
theorem STO.ne (h : STO lt) {a b : α} (e : lt a b = true) : a ≠ b := fun z => by subst z; rw [h.irr] at e; cases e
/-- not greater: transitive, total -/
theorem STO.le_tr (h : STO lt) (a b c : α) (e : (!lt b a) = true) (f : (!lt c b) = true) : (!lt c a) = true := by
  simp only [Bool.not_eq_true'] at e f ⊢
  cases q : lt c a with
  | false => rfl
  | true =>
    cases z : lt a b with
    | true => have := h.tr _ _ _ q z; rw [f] at this; cases this
    | false => have := h.tri _ _ z e; subst this; rw [f] at q; cases q
theorem STO.le_total (h : STO lt) (a b : α) : ((!lt b a) || (!lt a b)) = true := by
  cases q : lt b a with
  | false => rfl
  | true => simp [h.asym q]
def srt (lt : α → α → Bool) (l : List α) : List α := l.mergeSort fun a b => !lt b a
theorem srt_perm (l : List α) : (srt lt l).Perm l := List.mergeSort_perm _ _
theorem mem_srt {l : List α} {a : α} : a ∈ srt lt l ↔ a ∈ l := (srt_perm l).mem_iff
theorem srt_len {l : List α} : (srt lt l).length = l.length := (srt_perm l).length_eq
theorem srt_nodup {l : List α} (h : l.Nodup) : (srt lt l).Nodup := (srt_perm l).nodup_iff.mpr h
/-- rising -/
def Inc (lt : α → α → Bool) (l : List α) : Prop := l.Pairwise fun a b => lt a b = true
theorem STO.srt_inc (h : STO lt) {l : List α} (n : l.Nodup) : Inc lt (srt lt l) := by
  have p := List.pairwise_mergeSort (le := fun a b => !lt b a) h.le_tr h.le_total l
  have q := srt_nodup (lt := lt) n
  refine (List.Pairwise.and p q).imp fun {a b} ⟨e, ne⟩ => ?_
  cases z : lt a b with
  | true => rfl
  | false => exact (ne (h.tri _ _ z (by simpa using e))).elim
theorem STO.inc_nodup (h : STO lt) {l : List α} (i : Inc lt l) : l.Nodup := i.imp fun e => h.ne e
theorem Inc.sub {l l' : List α} (i : Inc lt l) (s : l'.Sublist l) : Inc lt l' := List.Pairwise.sublist s i
theorem STO.inc_ext (h : STO lt) {l l' : List α} (i : Inc lt l) (i' : Inc lt l') (e : ∀ a, a ∈ l ↔ a ∈ l') : l = l' := by
  have p : l.Perm l' := (List.perm_ext_iff_of_nodup (h.inc_nodup i) (h.inc_nodup i')).mpr e
  exact p.eq_of_pairwise (fun a b _ _ x y => by rw [h.asym x] at y; cases y) i i'
/-- rising things of a rising list are part of it -/
theorem STO.inc_sub (h : STO lt) : ∀ {l l' : List α}, Inc lt l → Inc lt l' → (∀ a ∈ l, a ∈ l') → l.Sublist l'
  | [], _, _, _, _ => List.nil_sublist _
  | a :: l, [], _, _, s => by cases s a List.mem_cons_self
  | a :: l, b :: l', i, i', s => by
    have i1 := List.pairwise_cons.mp i
    have i2 := List.pairwise_cons.mp i'
    rcases List.mem_cons.mp (s a List.mem_cons_self) with e | e
    · subst e
      refine (STO.inc_sub h i1.2 i2.2 fun c hc => ?_).cons₂ _
      rcases List.mem_cons.mp (s c (List.mem_cons_of_mem _ hc)) with z | z
      · subst z; have := i1.1 c hc; rw [h.irr] at this; cases this
      · exact z
    · refine (STO.inc_sub h i i2.2 fun c hc => ?_).cons _
      rcases List.mem_cons.mp (s c hc) with z | z
      · subst z
        rcases List.mem_cons.mp hc with z | z
        · subst z; exact e
        · have x := i1.1 _ z; have y := i2.1 _ e; rw [h.asym x] at y; cases y
      · exact z
theorem STO.srt_of_inc (h : STO lt) {l : List α} (i : Inc lt l) : srt lt l = l :=
  h.inc_ext (h.srt_inc (h.inc_nodup i)) i fun a => mem_srt
variable [DecidableEq α]
/-- by the first that differs -/
def lexL (lt : α → α → Bool) : List α → List α → Bool
  | [], [] => false
  | [], _ :: _ => true
  | _ :: _, [] => false
  | a :: as, b :: bs => if a = b then lexL lt as bs else lt a b
theorem STO.lexL (h : STO lt) : STO (lexL lt) := by
  refine ⟨fun l => ?_, fun l => ?_, fun l => ?_⟩
  · induction l with
    | nil => rfl
    | cons a l ih => simp [G.lexL, ih]
  · induction l with
    | nil =>
      intro b c e f
      cases b with
      | nil => simp [G.lexL] at e
      | cons _ _ => cases c with
        | nil => simp [G.lexL] at f
        | cons _ _ => rfl
    | cons a l ih =>
      intro b c e f
      cases b with
      | nil => simp [G.lexL] at e
      | cons b bs => cases c with
        | nil => simp [G.lexL] at f
        | cons c cs =>
          unfold G.lexL at e f ⊢
          by_cases ab : a = b
          · subst ab
            by_cases bc : a = c
            · subst bc; simp only [if_true] at e f ⊢; exact ih _ _ e f
            · simp only [if_true, bc, if_false] at e f ⊢; exact f
          · by_cases bc : b = c
            · subst bc; simp only [if_true, ab, if_false] at e f ⊢; exact e
            · simp only [ab, bc, if_false] at e f
              have t := h.tr _ _ _ e f
              rw [if_neg (h.ne t)]; exact t
  · induction l with
    | nil => intro b e f; cases b with
      | nil => rfl
      | cons _ _ => simp [G.lexL] at e
    | cons a l ih =>
      intro b e f
      cases b with
      | nil => simp [G.lexL] at f
      | cons b bs =>
        unfold G.lexL at e f
        by_cases ab : a = b
        · subst ab; simp only [if_true] at e f; rw [ih _ e f]
        · rw [if_neg ab] at e; rw [if_neg (fun z => ab z.symm)] at f; exact (ab (h.tri _ _ e f)).elim
end
/-- first parts, then second ones -/
def lex2 {α β : Type} [DecidableEq α] (l1 : α → α → Bool) (l2 : β → β → Bool) (a b : α × β) : Bool := if a.1 = b.1 then l2 a.2 b.2 else l1 a.1 b.1
theorem STO.lex2 {α β : Type} [DecidableEq α] {l1 : α → α → Bool} {l2 : β → β → Bool} (h1 : STO l1) (h2 : STO l2) : STO (lex2 l1 l2) := by
  refine ⟨fun a => by simp [G.lex2, h2.irr], fun a b c e f => ?_, fun a b e f => ?_⟩
  · unfold G.lex2 at e f ⊢
    by_cases ab : a.1 = b.1
    · rw [if_pos ab] at e
      by_cases bc : b.1 = c.1
      · rw [if_pos bc] at f; rw [if_pos (ab.trans bc)]; exact h2.tr _ _ _ e f
      · rw [if_neg bc] at f; rw [if_neg (by rw [ab]; exact bc), ab]; exact f
    · rw [if_neg ab] at e
      by_cases bc : b.1 = c.1
      · rw [if_neg (by rw [← bc]; exact ab), ← bc]; exact e
      · rw [if_neg bc] at f
        have t := h1.tr _ _ _ e f
        rw [if_neg (h1.ne t)]; exact t
  · unfold G.lex2 at e f
    by_cases ab : a.1 = b.1
    · rw [if_pos ab] at e; rw [if_pos ab.symm] at f
      exact Prod.ext ab (h2.tri _ _ e f)
    · rw [if_neg ab] at e; rw [if_neg (fun z => ab z.symm)] at f
      exact (ab (h1.tri _ _ e f)).elim
theorem STO.on {α β : Type} {lt : β → β → Bool} (h : STO lt) (f : α → β) (inj : ∀ a b, f a = f b → a = b) : STO (fun a b => lt (f a) (f b)) :=
  ⟨fun a => h.irr _, fun a b c => h.tr _ _ _, fun a b e e' => inj _ _ (h.tri _ _ e e')⟩
def sLt (a b : Str) : Bool := decide (a.cps.toList < b.cps.toList)
theorem sto_s : STO sLt := by
  refine ⟨fun a => by simp [sLt, List.lt_irrefl], fun a b c e f => ?_, fun a b e f => ?_⟩
  · simp only [sLt, decide_eq_true_eq] at e f ⊢; exact List.lt_trans e f
  · simp only [sLt, decide_eq_false_iff_not] at e f
    have t := Std.lt_trichotomy a.cps.toList b.cps.toList
    rcases t with t | t | t
    · exact (e t).elim
    · have : a.cps = b.cps := Array.toList_inj.mp t
      cases a; cases b; simp at this; rw [this]
    · exact (f t).elim
def nLt (a b : Nat) : Bool := decide (a < b)
theorem sto_n : STO nLt := ⟨fun a => by simp [nLt], fun a b c e f => by simp only [nLt, decide_eq_true_eq] at e f ⊢; omega, fun a b e f => by simp only [nLt, decide_eq_false_iff_not] at e f; omega⟩

/-! ### worlds -/
/-- a condition, a change -/
structure Pr where
  a : List Str
  b : List Str
  deriving DecidableEq
structure Dd where
  name : Str
  cost : Nat
  cond : Pr
  chs : List Pr
  deriving DecidableEq
structure Md where
  name : Str
  cond : Pr
  ch : Pr
  deriving DecidableEq
structure Wr where
  facts : List Str
  deeds : List Dd
  meds : List Md
  deriving DecidableEq
structure Pl where
  st : List Str
  s : Nat
  m : Nat
  deriving DecidableEq
/-! ### as values -/
def eS (s : List Str) : D := .tup (s.map D.str)
def eP (c : Pr) : D := .tup [eS c.a, eS c.b]
def eDd (d : Dd) : D := .tup [.str d.name, .int d.cost, eP d.cond, .tup (d.chs.map eP)]
def eMd (d : Md) : D := .tup [.str d.name, eP d.cond, eP d.ch]
def eW (w : Wr) : D := .tup [eS w.facts, .tup (w.deeds.map eDd), .tup (w.meds.map eMd)]
def ePl (p : Pl) : D := .tup [eS p.st, .int p.s, .int p.m]
abbrev stLt : List Str → List Str → Bool := lexL sLt
theorem sto_st : STO stLt := sto_s.lexL
def plLt (p q : Pl) : Bool := lex2 stLt (lex2 nLt nLt) (p.st, p.s, p.m) (q.st, q.s, q.m)
theorem sto_pl : STO plLt := (sto_st.lex2 (sto_n.lex2 sto_n)).on (fun p : Pl => (p.st, p.s, p.m)) fun a b e => by
  cases a; cases b; simp at e; obtain ⟨h1, h2, h3⟩ := e; simp [h1, h2, h3]
theorem eqvs_str : ∀ (a b : List Str), D.eqvs (a.map D.str) (b.map D.str) = decide (a = b)
  | [], [] => rfl
  | [], _ :: _ => by simp [D.eqvs]
  | _ :: _, [] => by simp [D.eqvs]
  | a :: as, b :: bs => by
    simp only [List.map_cons, D.eqvs, D.eqv, eqvs_str as bs]
    by_cases h : a = b <;> by_cases h2 : as = bs <;> simp [h, h2]
theorem eS_eqv (a b : List Str) : (eS a).eqv (eS b) = decide (a = b) := by simp only [eS, D.eqv, eqvs_str]
theorem lts_str : ∀ (a b : List Str), D.lts (a.map D.str) (b.map D.str) = stLt a b
  | [], [] => rfl
  | [], _ :: _ => rfl
  | _ :: _, [] => rfl
  | a :: as, b :: bs => by
    simp only [List.map_cons, D.lts, D.eqv, D.lt, lts_str as bs, stLt, lexL, sLt]
    by_cases h : a = b <;> simp [h]
theorem eS_lt (a b : List Str) : (eS a).lt (eS b) = stLt a b := by simp only [eS, D.lt, lts_str]
theorem nat_eqv (a b : Nat) : (D.int a).eqv (.int b) = decide (a = b) := by simp only [D.eqv]; by_cases h : a = b <;> simp [h]; omega
theorem ePl_eqv (p q : Pl) : (ePl p).eqv (ePl q) = decide (p = q) := by
  obtain ⟨a, b, c⟩ := p
  obtain ⟨a', b', c'⟩ := q
  simp only [ePl, D.eqv, D.eqvs, eS_eqv, nat_eqv, Bool.and_true]
  by_cases h1 : a = a' <;> by_cases h2 : b = b' <;> by_cases h3 : c = c' <;> simp [h1, h2, h3] <;> omega
theorem ePl_lt (p q : Pl) : (ePl p).lt (ePl q) = plLt p q := by
  obtain ⟨a, b, c⟩ := p
  obtain ⟨a', b', c'⟩ := q
  simp only [ePl, D.lt, D.lts, eS_eqv, eS_lt, nat_eqv, plLt, lex2, nLt]
  by_cases h1 : a = a' <;> by_cases h2 : b = b' <;> by_cases h3 : c = c' <;> simp [h1, h2, h3] <;> omega
theorem eS_inj {a b : List Str} (h : eS a = eS b) : a = b := by
  have := eS_eqv a b
  rw [h, eS_eqv] at this
  simpa using this.symm
theorem sortD_map {α : Type} {lt : α → α → Bool} (e : α → D) (he : ∀ a b, (e a).lt (e b) = lt a b) (l : List α) : sortD (l.map e) = (srt lt l).map e := by
  unfold sortD srt
  rw [List.map_mergeSort]
  intro a _ b _
  rw [he]
/-! ### dicts as lists of pairs -/
section
variable {κ α : Type} [DecidableEq κ]
def getA (l : List (κ × α)) (k : κ) : Option α := (l.find? fun p => decide (p.1 = k)).map (·.2)
def putA (l : List (κ × α)) (k : κ) (x : α) : List (κ × α) := if (getA l k).isSome then l.map fun p => if p.1 = k then (p.1, x) else p else l ++ [(k, x)]
def eKV (e : κ → D) (f : α → D) (l : List (κ × α)) : List (D × D) := l.map fun p => (e p.1, f p.2)
theorem look_e {e : κ → D} {f : α → D} (he : ∀ a b, (e a).eqv (e b) = decide (a = b)) (l : List (κ × α)) (k : κ) : look (eKV e f l) (e k) = (getA l k).map f := by
  induction l with
  | nil => rfl
  | cons p l ih =>
    unfold look getA eKV at ih ⊢
    rw [List.map_cons, List.find?_cons, List.find?_cons]
    simp only [he]
    by_cases h : p.1 = k
    · simp [h]
    · simp only [h, decide_false]; exact ih
theorem put_e {e : κ → D} {f : α → D} (he : ∀ a b, (e a).eqv (e b) = decide (a = b)) (l : List (κ × α)) (k : κ) (x : α) : put (eKV e f l) (e k) (f x) = eKV e f (putA l k x) := by
  unfold put putA
  rw [look_e he]
  cases h : getA l k with
  | none => simp [eKV]
  | some y =>
    simp only [Option.map_some, Option.isSome_some, if_true]
    unfold eKV
    rw [List.map_map, List.map_map]
    refine List.map_congr_left fun p _ => ?_
    simp only [Function.comp, he]
    by_cases h : p.1 = k <;> simp [h]
theorem eKV_len {e : κ → D} {f : α → D} {l : List (κ × α)} : (eKV e f l).length = l.length := by unfold eKV; rw [List.length_map]
theorem getA_none {l : List (κ × α)} {k : κ} : getA l k = none ↔ k ∉ l.map (·.1) := by
  unfold getA
  rw [Option.map_eq_none_iff, List.find?_eq_none]
  simp only [decide_eq_true_eq, List.mem_map, not_exists, not_and]
theorem getA_some {l : List (κ × α)} {k : κ} {x : α} (h : getA l k = some x) : (k, x) ∈ l := by
  unfold getA at h
  rw [Option.map_eq_some_iff] at h
  obtain ⟨p, h1, h2⟩ := h
  have := List.find?_some h1
  simp only [decide_eq_true_eq] at this
  subst h2 this
  exact List.mem_of_find?_eq_some h1
theorem getA_mem {l : List (κ × α)} {k : κ} (h : k ∈ l.map (·.1)) : ∃ x, getA l k = some x := by
  cases q : getA l k with
  | none => exact (getA_none.mp q h).elim
  | some x => exact ⟨x, rfl⟩
theorem putA_keys {l : List (κ × α)} {k : κ} {x : α} : (putA l k x).map (·.1) = if k ∈ l.map (·.1) then l.map (·.1) else l.map (·.1) ++ [k] := by
  unfold putA
  by_cases h : k ∈ l.map (·.1)
  · obtain ⟨y, hy⟩ := getA_mem h
    rw [hy, if_pos h]
    simp only [Option.isSome_some, if_true]
    rw [List.map_map]
    refine List.map_congr_left fun p _ => ?_
    simp only [Function.comp]
    split <;> rfl
  · rw [getA_none.mpr h, if_neg h]
    simp
theorem getA_app {l r : List (κ × α)} {k : κ} : getA (l ++ r) k = (getA l k).or (getA r k) := by
  unfold getA
  rw [List.find?_append]
  cases List.find? (fun p => decide (p.1 = k)) l <;> rfl
theorem getA_put {l : List (κ × α)} {k j : κ} {x : α} : getA (putA l k x) j = if j = k then some x else getA l j := by
  unfold putA
  cases h : getA l k with
  | none =>
    simp only [Option.isSome_none, Bool.false_eq_true, if_false]
    rw [getA_app]
    by_cases e : j = k
    · subst e; rw [h, if_pos rfl]; simp [getA]
    · rw [if_neg e]
      have : getA [(k, x)] j = none := by simp [getA, Ne.symm e]
      rw [this, Option.or_none]
  | some y =>
    simp only [Option.isSome_some, if_true]
    have key : ∀ l : List (κ × α), getA (l.map fun p => if p.1 = k then (p.1, x) else p) j = if j = k then (getA l k).map fun _ => x else getA l j := by
      intro l
      induction l with
      | nil => by_cases e : j = k <;> simp [getA, e]
      | cons p l ih =>
        unfold getA at ih ⊢
        rw [List.map_cons, List.find?_cons, List.find?_cons, List.find?_cons]
        by_cases e : p.1 = k
        · by_cases e2 : j = k
          · simp [e, e2]
          · have e3 : ¬ k = j := fun z => e2 z.symm
            have e4 : ¬ p.1 = j := by rw [e]; exact e3
            simp only [e, e2, e3, e4, if_true, if_false, decide_false] at ih ⊢
            exact ih
        · by_cases e2 : j = k
          · subst e2
            simp only [e, if_true, if_false, decide_false] at ih ⊢
            exact ih
          · simp only [e, e2, if_false] at ih ⊢
            by_cases e3 : p.1 = j
            · simp [e3]
            · simp only [e3, decide_false]; exact ih
    rw [key, h]
    rfl
/-- a key more -/
def insK (l : List κ) (k : κ) : List κ := if k ∈ l then l else l ++ [k]
theorem mem_insK {l : List κ} {k j : κ} : j ∈ insK l k ↔ j ∈ l ∨ j = k := by
  unfold insK
  split
  · rename_i h; exact ⟨.inl, fun z => z.elim id fun e => by rw [e]; exact h⟩
  · rw [List.mem_append, List.mem_singleton]
theorem nodup_insK {l : List κ} {k : κ} (h : l.Nodup) : (insK l k).Nodup := by
  unfold insK
  split
  · exact h
  · rename_i n
    rw [List.nodup_append]
    exact ⟨h, by simp, fun a ha b hb => by rw [List.mem_singleton] at hb; subst hb; exact fun e => n (e ▸ ha)⟩
theorem mem_insKs {ks l : List κ} {j : κ} : j ∈ ks.foldl insK l ↔ j ∈ l ∨ j ∈ ks := by
  induction ks generalizing l with
  | nil => simp
  | cons k ks ih => rw [List.foldl_cons, ih, mem_insK, List.mem_cons, or_assoc]
theorem nodup_insKs {ks l : List κ} (h : l.Nodup) : (ks.foldl insK l).Nodup := by
  induction ks generalizing l with
  | nil => exact h
  | cons k ks ih => rw [List.foldl_cons]; exact ih (nodup_insK h)
theorem len_insK {l : List κ} {k : κ} : (insK l k).length ≤ l.length + 1 := by unfold insK; split <;> simp
theorem len_insKs {ks l : List κ} : (ks.foldl insK l).length ≤ l.length + ks.length := by
  induction ks generalizing l with
  | nil => simp
  | cons k ks ih => rw [List.foldl_cons, List.length_cons]; have := ih (l := insK l k); have := len_insK (l := l) (k := k); omega
/-- a dict of one value -/
def eKs (e : κ → D) (x : D) (l : List κ) : List (D × D) := l.map fun k => (e k, x)
theorem put_ks {e : κ → D} (he : ∀ a b, (e a).eqv (e b) = decide (a = b)) (l : List κ) (k : κ) (x : D) : put (eKs e x l) (e k) x = eKs e x (insK l k) := by
  have q : look (eKs e x l) (e k) = if k ∈ l then some x else none := by
    induction l with
    | nil => rfl
    | cons a l ih =>
      unfold look eKs at ih ⊢
      rw [List.map_cons, List.find?_cons]
      simp only [he]
      by_cases h : a = k
      · simp [h]
      · have h' : ¬ k = a := fun z => h z.symm
        simp only [h, decide_false, List.mem_cons, h', false_or]; exact ih
  unfold put insK
  rw [q]
  by_cases h : k ∈ l
  · simp only [if_pos h, Option.isSome_some, if_true]
    unfold eKs
    rw [List.map_map]
    refine List.map_congr_left fun a _ => ?_
    simp only [Function.comp]
    split <;> rfl
  · simp [if_neg h, eKs]
theorem putAll_ks {e : κ → D} (he : ∀ a b, (e a).eqv (e b) = decide (a = b)) (l ks : List κ) (x : D) : putAll (eKs e x l) (eKs e x ks) = eKs e x (ks.foldl insK l) := by
  induction ks generalizing l with
  | nil => rfl
  | cons k ks ih =>
    have h : putAll (eKs e x l) (eKs e x (k :: ks)) = putAll (put (eKs e x l) (e k) x) (eKs e x ks) := rfl
    rw [h, put_ks he, ih, List.foldl_cons]
end
end G
/-! Conditions, changes, states, places, where deeds lead. -/
namespace G
open PySem
def holdsB (c : Pr) (s : List Str) : Bool := c.a.all (fun f => decide (f ∈ s)) && !c.b.any fun f => decide (f ∈ s)
def keptF (s : List Str) (c : Pr) : List Str := s.filter fun f => decide (f ∉ c.b) && decide (f ∉ c.a)
def behindF (s : List Str) (c : Pr) : List Str := srt sLt (keptF s c ++ c.a)
def statesF (fs : List Str) : List (List Str) := srt stLt (fs.foldl (fun acc f => acc ++ acc.map (· ++ [f])) [[]])
def countsF (S M : Nat) : List (Nat × Nat) := (List.range (S + 1)).flatMap fun a => (List.range (M + 1)).map fun b => (a, b)
def placesF (w : Wr) (S M : Nat) : List Pl := (statesF w.facts).flatMap fun s => (countsF S M).map fun c => ⟨s, c.1, c.2⟩
/-- without meddles: one end, more by slips -/
def ends0 (p : Pl) (chs : List Pr) : List Pl := match chs with
  | [] => []
  | c :: cs => if p.s = 0 then [⟨behindF p.st c, p.s, p.m⟩] else ((cs.map fun c => (⟨behindF p.st c, p.s - 1, p.m⟩ : Pl)).foldl insK []).foldl insK [⟨behindF p.st c, p.s, p.m⟩]
def meddled (meds : List Md) (q : Pl) : List Pl := (meds.filter fun m => holdsB m.cond q.st).map fun m => ⟨behindF q.st m.ch, q.s, q.m - 1⟩
def ends1 (meds : List Md) (qs : List Pl) : List Pl := qs.foldl (fun acc q => (meddled meds q).foldl insK acc) qs
def leadsF (w : Wr) (p : Pl) (d : Dd) : List Pl := srt plLt (if p.m = 0 then ends0 p d.chs else ends1 w.meds (ends0 p d.chs))
def ableF (w : Wr) (p : Pl) : List Dd := w.deeds.filter fun d => holdsB d.cond p.st

/-! ### what is well formed -/
structure WfPr (fs : List Str) (c : Pr) : Prop where
  a : c.a.Sublist fs
  b : c.b.Sublist fs
structure WfDd (fs : List Str) (d : Dd) : Prop where
  name : PyData.strOk d.name = true
  cost : 1 ≤ d.cost
  cond : WfPr fs d.cond
  chs : ∀ c ∈ d.chs, WfPr fs c
  ne : d.chs ≠ []
  many : d.chs.length ≤ 100
structure WfMd (fs : List Str) (d : Md) : Prop where
  name : PyData.strOk d.name = true
  cond : WfPr fs d.cond
  ch : WfPr fs d.ch
structure WfW (w : Wr) : Prop where
  inc : Inc sLt w.facts
  len : w.facts.length ≤ 6
  ok : ∀ f ∈ w.facts, PyData.strOk f = true
  deeds : ∀ d ∈ w.deeds, WfDd w.facts d
  meds : ∀ d ∈ w.meds, WfMd w.facts d
  manyD : w.deeds.length ≤ 100
  manyM : w.meds.length ≤ 100
/-- a place within bounds -/
structure PlIn (fs : List Str) (S M : Nat) (p : Pl) : Prop where
  st : p.st.Sublist fs
  s : p.s ≤ S
  m : p.m ≤ M
theorem WfW.nodup {w : Wr} (h : WfW w) : w.facts.Nodup := sto_s.inc_nodup h.inc
section
variable {fs : List Str}
theorem mem_kept {s : List Str} {c : Pr} {f : Str} : f ∈ keptF s c ↔ f ∈ s ∧ f ∉ c.b ∧ f ∉ c.a := by
  unfold keptF; rw [List.mem_filter]; simp
theorem mem_behind {s : List Str} {c : Pr} {f : Str} : f ∈ behindF s c ↔ (f ∈ s ∧ f ∉ c.b) ∨ f ∈ c.a := by
  unfold behindF
  rw [mem_srt, List.mem_append, mem_kept]
  by_cases h : f ∈ c.a <;> simp [h]
theorem behind_sub (i : Inc sLt fs) {s : List Str} {c : Pr} (hs : s.Sublist fs) (hc : c.a.Sublist fs) : (behindF s c).Sublist fs := by
  have n : (keptF s c ++ c.a).Nodup := by
    rw [List.nodup_append]
    refine ⟨List.Nodup.sublist List.filter_sublist (sto_s.inc_nodup (i.sub hs)), sto_s.inc_nodup (i.sub hc), fun a ha b hb e => ?_⟩
    subst e
    exact (mem_kept.mp ha).2.2 hb
  refine sto_s.inc_sub (sto_s.srt_inc n) i fun f hf => ?_
  rcases mem_behind.mp hf with h | h
  · exact hs.subset h.1
  · exact hc.subset h
theorem fold_sub : ∀ (fs done : List Str) (acc : List (List Str)), (∀ s, s ∈ acc ↔ s.Sublist done) → ∀ s, s ∈ fs.foldl (fun acc f => acc ++ acc.map (· ++ [f])) acc ↔ s.Sublist (done ++ fs)
  | [], done, acc, h, s => by simpa using h s
  | f :: fs, done, acc, h, s => by
    rw [List.foldl_cons]
    have := fold_sub fs (done ++ [f]) (acc ++ acc.map (· ++ [f])) (fun s => by
      rw [List.mem_append, List.mem_map, h]
      constructor
      · rintro (q | ⟨t, q, rfl⟩)
        · exact q.trans (List.sublist_append_left _ _)
        · exact List.Sublist.append ((h t).mp q) (List.Sublist.refl _)
      · intro q
        rw [List.sublist_append_iff] at q
        obtain ⟨a, b, rfl, q1, q2⟩ := q
        rcases List.sublist_cons_iff.mp q2 with z | ⟨r, z, z2⟩
        · rw [List.sublist_nil.mp z, List.append_nil]; exact .inl q1
        · rw [List.sublist_nil.mp z2] at z
          exact .inr ⟨a, (h a).mpr q1, by rw [z]⟩) s
    simpa using this
theorem mem_states {s : List Str} : s ∈ statesF fs ↔ s.Sublist fs := by
  unfold statesF
  rw [mem_srt, fold_sub fs [] [[]] (fun s => by simp)]
  simp
theorem fold_len : ∀ (fs : List Str) (acc : List (List Str)), (fs.foldl (fun acc f => acc ++ acc.map (· ++ [f])) acc).length = acc.length * 2 ^ fs.length
  | [], acc => by simp
  | f :: fs, acc => by
    rw [List.foldl_cons, fold_len fs, List.length_append, List.length_map, List.length_cons, Nat.pow_succ, ← Nat.mul_two, Nat.mul_assoc, Nat.mul_comm 2]
theorem states_len : (statesF fs).length = 2 ^ fs.length := by unfold statesF; rw [srt_len, fold_len]; simp
theorem fold_nodup : ∀ (fs done : List Str) (acc : List (List Str)), (done ++ fs).Nodup → (∀ s ∈ acc, ∀ f ∈ s, f ∈ done) → acc.Nodup → (fs.foldl (fun acc f => acc ++ acc.map (· ++ [f])) acc).Nodup
  | [], done, acc, _, _, h => h
  | f :: fs, done, acc, hn, hs, h => by
    rw [List.foldl_cons]
    have hf : f ∉ done := by
      rw [List.nodup_append] at hn
      intro z
      exact hn.2.2 f z f List.mem_cons_self rfl
    refine fold_nodup fs (done ++ [f]) _ (by simpa using hn) (fun s hs' g hg => ?_) ?_
    · rcases List.mem_append.mp hs' with z | z
      · exact List.mem_append_left _ (hs s z g hg)
      · obtain ⟨t, ht, rfl⟩ := List.mem_map.mp z
        rcases List.mem_append.mp hg with z | z
        · exact List.mem_append_left _ (hs t ht g z)
        · exact List.mem_append_right _ z
    · rw [List.nodup_append]
      refine ⟨h, ?_, fun a ha b hb e => ?_⟩
      · unfold List.Nodup at h ⊢
        rw [List.pairwise_map]
        exact h.imp fun n e => n (List.append_cancel_right e)
      · obtain ⟨t, ht, rfl⟩ := List.mem_map.mp hb
        subst e
        exact hf (hs _ ha f (List.mem_append_right _ List.mem_cons_self))
theorem states_nodup (h : fs.Nodup) : (statesF fs).Nodup := srt_nodup (fold_nodup fs [] [[]] (by simpa using h) (fun s hs f hf => by simp at hs; subst hs; simp at hf) (by simp))
theorem mem_counts {S M : Nat} {c : Nat × Nat} : c ∈ countsF S M ↔ c.1 ≤ S ∧ c.2 ≤ M := by
  unfold countsF
  obtain ⟨a, b⟩ := c
  simp only [List.mem_flatMap, List.mem_range, List.mem_map, Prod.mk.injEq]
  constructor
  · rintro ⟨x, hx, y, hy, rfl, rfl⟩; omega
  · rintro ⟨h1, h2⟩; exact ⟨a, by omega, b, by omega, rfl, rfl⟩
theorem mem_places {w : Wr} {S M : Nat} {p : Pl} : p ∈ placesF w S M ↔ PlIn w.facts S M p := by
  unfold placesF
  obtain ⟨s, a, b⟩ := p
  simp only [List.mem_flatMap, List.mem_map, mem_states, Pl.mk.injEq]
  constructor
  · rintro ⟨t, ht, c, hc, rfl, rfl, rfl⟩
    exact ⟨ht, (mem_counts.mp hc).1, (mem_counts.mp hc).2⟩
  · rintro ⟨h1, h2, h3⟩
    exact ⟨s, h1, (a, b), mem_counts.mpr ⟨h2, h3⟩, rfl, rfl, rfl⟩
theorem counts_nodup {S M : Nat} : (countsF S M).Nodup := by
  unfold countsF List.flatMap List.Nodup
  rw [List.pairwise_flatten]
  refine ⟨fun l hl => ?_, ?_⟩
  · obtain ⟨a, ha, rfl⟩ := List.mem_map.mp hl
    rw [List.pairwise_map]
    exact (List.nodup_range (n := M + 1)).imp fun h e => h (Prod.mk.inj e).2
  · rw [List.pairwise_map]
    exact (List.nodup_range (n := S + 1)).imp fun {a b} h x hx y hy => by
      obtain ⟨p, _, rfl⟩ := List.mem_map.mp hx
      rintro rfl
      obtain ⟨q, _, e⟩ := List.mem_map.mp hy
      exact h (Prod.mk.inj e).1.symm
theorem places_nodup {w : Wr} (h : w.facts.Nodup) {S M : Nat} : (placesF w S M).Nodup := by
  unfold placesF List.flatMap List.Nodup
  rw [List.pairwise_flatten]
  refine ⟨fun l hl => ?_, ?_⟩
  · obtain ⟨a, ha, rfl⟩ := List.mem_map.mp hl
    rw [List.pairwise_map]
    exact counts_nodup.imp fun {x y} h e => h (by cases x; cases y; simp at e; simp [e])
  · rw [List.pairwise_map]
    exact (states_nodup h).imp fun {a b} h x hx y hy => by
      obtain ⟨p, _, rfl⟩ := List.mem_map.mp hx
      rintro rfl
      obtain ⟨q, _, e⟩ := List.mem_map.mp hy
      exact h (by simp at e; exact e.1.symm)
theorem counts_len {S M : Nat} : (countsF S M).length = (S + 1) * (M + 1) := by
  unfold countsF
  have : ∀ l : List Nat, (l.flatMap fun a => (List.range (M + 1)).map fun b => (a, b)).length = l.length * (M + 1) := by
    intro l
    induction l with
    | nil => simp
    | cons a l ih => rw [List.flatMap_cons, List.length_append, ih, List.length_map, List.length_range, List.length_cons, Nat.succ_mul]; omega
  rw [this, List.length_range]
theorem places_len {w : Wr} {S M : Nat} : (placesF w S M).length = 2 ^ w.facts.length * ((S + 1) * (M + 1)) := by
  unfold placesF
  have : ∀ l : List (List Str), (l.flatMap fun s => (countsF S M).map fun c => (⟨s, c.1, c.2⟩ : Pl)).length = l.length * ((S + 1) * (M + 1)) := by
    intro l
    generalize hK : (S + 1) * (M + 1) = K
    induction l with
    | nil => simp
    | cons a l ih => rw [List.flatMap_cons, List.length_append, ih, List.length_map, counts_len, hK, List.length_cons, Nat.succ_mul]; omega
  rw [this, states_len]
/-! ### where deeds lead -/
/-- without meddles -/
def End0 (p : Pl) (chs : List Pr) (q : Pl) : Prop := match chs with
  | [] => False
  | c :: cs => q = ⟨behindF p.st c, p.s, p.m⟩ ∨ (0 < p.s ∧ ∃ c' ∈ cs, q = ⟨behindF p.st c', p.s - 1, p.m⟩)
theorem mem_ends0 {p : Pl} {chs : List Pr} {q : Pl} : q ∈ ends0 p chs ↔ End0 p chs q := by
  unfold ends0 End0
  cases chs with
  | nil => simp
  | cons c cs =>
    by_cases h : p.s = 0
    · simp [h]
    · simp only [h, if_false, mem_insKs, List.mem_singleton, List.mem_map, List.not_mem_nil, false_or]
      constructor
      · rintro (e | ⟨c', h1, rfl⟩)
        · exact .inl e
        · exact .inr ⟨by omega, c', h1, rfl⟩
      · rintro (e | ⟨_, c', h1, rfl⟩)
        · exact .inl e
        · exact .inr ⟨c', h1, rfl⟩
theorem mem_meddled {meds : List Md} {q r : Pl} : r ∈ meddled meds q ↔ ∃ m ∈ meds, holdsB m.cond q.st = true ∧ r = ⟨behindF q.st m.ch, q.s, q.m - 1⟩ := by
  unfold meddled
  simp only [List.mem_map, List.mem_filter]
  constructor
  · rintro ⟨m, ⟨h1, h2⟩, rfl⟩; exact ⟨m, h1, h2, rfl⟩
  · rintro ⟨m, h1, h2, rfl⟩; exact ⟨m, ⟨h1, h2⟩, rfl⟩
theorem mem_fold_med {meds : List Md} {r : Pl} : ∀ (qs acc : List Pl), r ∈ qs.foldl (fun acc q => (meddled meds q).foldl insK acc) acc ↔ r ∈ acc ∨ ∃ q ∈ qs, r ∈ meddled meds q
  | [], acc => by simp
  | q :: qs, acc => by
    rw [List.foldl_cons, mem_fold_med qs, mem_insKs, or_assoc]
    simp
/-- what a deed may lead to -/
def Lead (w : Wr) (p : Pl) (d : Dd) (q : Pl) : Prop := End0 p d.chs q ∨ (0 < p.m ∧ ∃ r, End0 p d.chs r ∧ ∃ m ∈ w.meds, holdsB m.cond r.st = true ∧ q = ⟨behindF r.st m.ch, r.s, r.m - 1⟩)
theorem mem_leads {w : Wr} {p : Pl} {d : Dd} {q : Pl} : q ∈ leadsF w p d ↔ Lead w p d q := by
  unfold leadsF Lead
  rw [mem_srt]
  by_cases h : p.m = 0
  · rw [if_pos h, mem_ends0]; simp [h]
  · rw [if_neg h]
    unfold ends1
    rw [mem_fold_med]
    simp only [mem_ends0, mem_meddled]
    constructor
    · rintro (e | ⟨r, h1, h2⟩)
      · exact .inl e
      · exact .inr ⟨by omega, r, h1, h2⟩
    · rintro (e | ⟨_, r, h1, h2⟩)
      · exact .inl e
      · exact .inr ⟨r, h1, h2⟩
theorem ends0_nodup {p : Pl} {chs : List Pr} : (ends0 p chs).Nodup := by
  unfold ends0
  split
  · simp
  · split
    · simp
    · exact nodup_insKs (by simp)
theorem fold_med_nodup {meds : List Md} : ∀ (qs acc : List Pl), acc.Nodup → (qs.foldl (fun acc q => (meddled meds q).foldl insK acc) acc).Nodup
  | [], acc, h => h
  | q :: qs, acc, h => by rw [List.foldl_cons]; exact fold_med_nodup qs _ (nodup_insKs h)
theorem leads_nodup {w : Wr} {p : Pl} {d : Dd} : (leadsF w p d).Nodup := by
  unfold leadsF
  refine srt_nodup ?_
  split
  · exact ends0_nodup
  · exact fold_med_nodup _ _ ends0_nodup
theorem leads_inc {w : Wr} {p : Pl} {d : Dd} : Inc plLt (leadsF w p d) := by
  unfold leadsF
  refine sto_pl.srt_inc ?_
  split
  · exact ends0_nodup
  · exact fold_med_nodup _ _ ends0_nodup
theorem leads_ne {w : Wr} {p : Pl} {d : Dd} (h : d.chs ≠ []) : leadsF w p d ≠ [] := by
  cases q : d.chs with
  | nil => exact (h q).elim
  | cons c cs =>
    have : (⟨behindF p.st c, p.s, p.m⟩ : Pl) ∈ leadsF w p d := mem_leads.mpr (.inl (by rw [q]; exact .inl rfl))
    exact List.ne_nil_of_mem this
theorem ends0_len {p : Pl} {chs : List Pr} : (ends0 p chs).length ≤ chs.length + 1 := by
  unfold ends0
  split
  · simp
  · rename_i c cs
    split
    · simp
    · refine Nat.le_trans len_insKs ?_
      have : ((cs.map fun c => (⟨behindF p.st c, p.s - 1, p.m⟩ : Pl)).foldl insK []).length ≤ cs.length := Nat.le_trans len_insKs (by simp)
      simp only [List.length_cons, List.length_nil]
      omega
theorem End0.in_ {p : Pl} {chs : List Pr} {q : Pl} {S M : Nat} (i : Inc sLt fs) (hp : PlIn fs S M p) (hc : ∀ c ∈ chs, WfPr fs c) (h : End0 p chs q) : PlIn fs S M q := by
  unfold End0 at h
  split at h
  · exact h.elim
  · rename_i c cs
    rcases h with rfl | ⟨_, c', h1, rfl⟩
    · exact ⟨behind_sub i hp.st (hc c List.mem_cons_self).a, hp.s, hp.m⟩
    · exact ⟨behind_sub i hp.st (hc c' (List.mem_cons_of_mem _ h1)).a, Nat.le_trans (Nat.sub_le _ _) hp.s, hp.m⟩
theorem leads_in {w : Wr} (hw : WfW w) {p : Pl} {d : Dd} {q : Pl} {S M : Nat} (hp : PlIn w.facts S M p) (hd : WfDd w.facts d) (h : q ∈ leadsF w p d) : PlIn w.facts S M q := by
  rcases mem_leads.mp h with h | ⟨_, r, h1, m, h2, _, rfl⟩
  · exact End0.in_ hw.inc hp hd.chs h
  · have hr := End0.in_ hw.inc hp hd.chs h1
    exact ⟨behind_sub hw.inc hr.st (hw.meds m h2).ch.a, hr.s, Nat.le_trans (Nat.sub_le _ _) hr.m⟩
end
end G
/-! What the defs of worlds and places give: states, holds, behind, leads_of, places. -/
namespace G
open PySem PySem.Spec PyProof.Rows L2
def b_states_1 : Ss := (.cons (.asg (.var 1) (.fr (.cat (.var 1) (.fr (.comp [3] (.var 3) (.of (.var 1)) (.bin .Add (.var 3) (.tup (.cons (.var 2) .nil)))))))) .nil)
def b_states : Ss := (.cons (.asg (.var 1) (.fr (.disp (.cons (.tup .nil) .nil)))) (.cons (.for (.var 2) (.of (.idx (.var 0) (.int 0))) b_states_1) (.cons (.ret (.fr (.sorted (.var 1)))) .nil)))
def b_holds : Ss := (.cons (.asg (.tup (.cons (.var 2) (.cons (.var 3) .nil))) (.var 0)) (.cons (.ret (.bop true (.cons (.bi .all (.fr (.comp [4] (.var 4) (.of (.var 2)) (.cmp .In (.var 4) (.var 1))))) (.cons (.not (.bi .any (.fr (.comp [4] (.var 4) (.of (.var 3)) (.cmp .In (.var 4) (.var 1)))))) .nil)))) .nil))
def b_behind : Ss := (.cons (.asg (.tup (.cons (.var 3) (.cons (.var 4) .nil))) (.var 1)) (.cons (.asg (.var 2) (.fr (.compif [5] (.var 5) (.of (.var 0)) (.bop true (.cons (.cmp .NotIn (.var 5) (.var 4)) (.cons (.cmp .NotIn (.var 5) (.var 3)) .nil))) (.var 5)))) (.cons (.ret (.bi .tuple (.fr (.sorted (.fr (.cat (.var 2) (.fr (.list (.var 3))))))))) .nil)))
def b_leads_of_1 : Ss := (.cons (.ife (.call "holds" (.cons (.var 11) (.cons (.var 7) .nil))) (.cons (.sto (.var 3) (.tup (.cons (.call "behind" (.cons (.var 7) (.cons (.var 12) .nil))) (.cons (.var 8) (.cons (.bin .Sub (.var 9) (.int 1)) .nil)))) (.bl true)) .nil) .nil) .nil)
def b_leads_of_2 : Ss := (.cons (.for (.tup (.cons (.var 10) (.cons (.var 11) (.cons (.var 12) .nil)))) (.of (.idx (.var 0) (.int 2))) b_leads_of_1) .nil)
def b_leads_of : Ss := (.cons (.asg (.tup (.cons (.var 4) (.cons (.var 5) (.cons (.var 6) .nil)))) (.var 1)) (.cons (.asg (.var 3) (.bx (.dct1 (.tup (.cons (.call "behind" (.cons (.var 4) (.cons (.idx (.idx (.var 2) (.int 3)) (.int 0)) .nil))) (.cons (.var 5) (.cons (.var 6) .nil)))) (.bl true)))) (.cons (.ife (.cmp .Gt (.var 5) (.int 0)) (.cons (.exp (.upd (.var 3) (.fr (.dctc [12] (.var 12) (.of (.slc (.idx (.var 2) (.int 3)) (.at (.int 1)) .no)) (.tup (.cons (.call "behind" (.cons (.var 4) (.cons (.var 12) .nil))) (.cons (.bin .Sub (.var 5) (.int 1)) (.cons (.var 6) .nil)))) (.bl true))))) .nil) .nil) (.cons (.ife (.cmp .Gt (.var 6) (.int 0)) (.cons (.for (.tup (.cons (.var 7) (.cons (.var 8) (.cons (.var 9) .nil)))) (.of (.fr (.listK (.var 3)))) b_leads_of_2) .nil) .nil) (.cons (.ret (.fr (.sorted (.var 3)))) .nil)))))
def b_places : Ss := (.cons (.asg (.var 3) (.fr (.comp2 [4, 5] (.var 4) (.range1 (.bin .Add (.var 1) (.int 1))) (.bl true) [5] (.var 5) (.range1 (.bin .Add (.var 2) (.int 1))) (.bl true) (.tup (.cons (.var 4) (.cons (.var 5) .nil)))))) (.cons (.ret (.fr (.comp2 [4, 5, 6] (.var 6) (.of (.call "states" (.cons (.var 0) .nil))) (.bl true) [4, 5] (.tup (.cons (.var 4) (.cons (.var 5) .nil))) (.of (.var 3)) (.bl true) (.tup (.cons (.var 6) (.cons (.var 4) (.cons (.var 5) .nil))))))) .nil))
variable {Γ : Ctx}
/-- one reading step -/
def Ext (st st' : Store) : Prop := ∀ a o, st a = some o → st' a = some o
theorem Ext.refl (st : Store) : Ext st st := fun _ _ h => h
theorem Ext.trans {a b c : Store} (h : Ext a b) (k : Ext b c) : Ext a c := fun x o e => k x o (h x o e)
theorem Ext.new {st : Store} {a : Addr} {o : Ob} (n : st a = none) : Ext st (st.set a o) := fun b x e => by rw [set_ne (fun z => by rw [z, n] at e; cases e)]; exact e
theorem Ext.bump {st st' : Store} {a : Addr} {o : Ob} (h : Ext st st') (n : st a = none) : Ext st (st'.set a o) := fun b x e => by rw [set_ne (fun z => by rw [z, n] at e; cases e)]; exact h b x e
/-- texts that are told -/
structure OkS (s : List Str) : Prop where
  ok : ∀ f ∈ s, PyData.strOk f = true
  len : s.length ≤ 1000
theorem OkS.dats {s : List Str} (h : OkS s) {n : Nat} : D.dats n (s.map D.str) = true := dats_iff.mpr fun x hx => by
  obtain ⟨f, hf, rfl⟩ := List.mem_map.mp hx
  unfold D.dat
  exact h.ok f hf
theorem OkS.sub {s t : List Str} (h : OkS s) (k : t.Sublist s) : OkS t := ⟨fun f hf => h.ok f (k.subset hf), Nat.le_trans k.length_le h.len⟩
theorem str_dat {f : Str} {n : Nat} (h : PyData.strOk f = true) : (D.str f).dat n = true := by unfold D.dat; exact h
theorem any_str (s : List Str) (f : Str) : (s.map D.str).any (fun x => x.eqv (.str f)) = decide (f ∈ s) := by
  induction s with
  | nil => rfl
  | cons a s ih =>
    rw [List.map_cons, List.any_cons, ih]
    simp only [D.eqv]
    by_cases h : f = a
    · subst h; simp
    · have : ¬ a = f := fun z => h z.symm
      simp [h, this]
theorem in_str {st : Store} {s : List Str} {f : Str} {k : Bool → Prop} (h : OkS s) (hf : PyData.strOk f = true) (q : k (decide (f ∈ s))) : cmpR st .In (.str f) (eS s) k :=
  .inl ⟨_, rfl, str_dat hf, h.dats, by rw [any_str]; exact q⟩
theorem notin_str {st : Store} {s : List Str} {f : Str} {k : Bool → Prop} (h : OkS s) (hf : PyData.strOk f = true) (q : k (decide (f ∉ s))) : cmpR st .NotIn (.str f) (eS s) k :=
  .inl ⟨_, rfl, str_dat hf, h.dats, by rw [any_str]; simpa using q⟩
theorem mem_mapS {s : List Str} {d : D} (h : d ∈ s.map D.str) : ∃ f ∈ s, d = .str f := by
  obtain ⟨f, hf, rfl⟩ := List.mem_map.mp h
  exact ⟨f, hf, rfl⟩
def sof (d : D) : Str := match d with | .str f => f | _ => ⟨#[]⟩
theorem all_mapS (s : List Str) (g : Str → Bool) : (s.map D.str).all (fun d => g (sof d)) = s.all g := by rw [List.all_map]; rfl
theorem any_mapS (s : List Str) (g : Str → Bool) : (s.map D.str).any (fun d => g (sof d)) = s.any g := by rw [List.any_map]; rfl
def sp_holds : Spec := fun ds st P _ => ∃ c s, ds = [eP c, eS s] ∧ OkS c.a ∧ OkS c.b ∧ OkS s ∧ P (.bl (holdsB c s)) st
theorem d_holds : Does Γ 5 2 b_holds sp_holds := by
  rintro ds st P ⟨c, s, rfl, ha, hb, hs, hP⟩
  refine ⟨rfl, ?_⟩
  unfold b_holds eP startE
  try simp only [denSs, denS, den, denB, denP, denI, denEs, denO, asg, asgs, wipeE, items1, eS, List.map_cons, List.map_nil, List.cons_append, List.nil_append, List.length_cons, List.length_nil, List.replicate, Nat.add_zero, Nat.zero_add, Nat.reduceAdd, Nat.reduceSub, List.getElem?_cons_zero, List.getElem?_cons_succ, List.set_cons_zero, List.set_cons_succ, if_true, if_false, Bool.false_eq_true, reduceCtorEq]
  refine comp_all (fun d => decide (sof d ∈ s)) (by simpa using ha.len) (fun d hd k hk => ?_) ⟨_, rfl, ?_⟩
  · obtain ⟨f, hf, rfl⟩ := mem_mapS hd
    try simp only [denSs, denS, den, denB, denP, denI, denEs, denO, asg, asgs, wipeE, items1, eS, List.map_cons, List.map_nil, List.cons_append, List.nil_append, List.length_cons, List.length_nil, List.replicate, Nat.add_zero, Nat.zero_add, Nat.reduceAdd, Nat.reduceSub, List.getElem?_cons_zero, List.getElem?_cons_succ, List.set_cons_zero, List.set_cons_succ, if_true, if_false, Bool.false_eq_true, reduceCtorEq]
    exact in_str hs (ha.ok f hf) hk
  · rw [all_mapS c.a fun f => decide (f ∈ s)]
    unfold holdsB at hP
    cases q : c.a.all fun f => decide (f ∈ s) with
    | false => rw [q] at hP; simpa using hP
    | true =>
      rw [q] at hP
      try simp only [denSs, denS, den, denB, denP, denI, denEs, denO, asg, asgs, wipeE, items1, eS, List.map_cons, List.map_nil, List.cons_append, List.nil_append, List.length_cons, List.length_nil, List.replicate, Nat.add_zero, Nat.zero_add, Nat.reduceAdd, Nat.reduceSub, List.getElem?_cons_zero, List.getElem?_cons_succ, List.set_cons_zero, List.set_cons_succ, if_true, if_false, Bool.false_eq_true, reduceCtorEq]
      refine comp_any (fun d => decide (sof d ∈ s)) (by simpa using hb.len) (fun d hd k hk => ?_) ⟨_, rfl, ?_⟩
      · obtain ⟨f, hf, rfl⟩ := mem_mapS hd
        try simp only [denSs, denS, den, denB, denP, denI, denEs, denO, asg, asgs, wipeE, items1, eS, List.map_cons, List.map_nil, List.cons_append, List.nil_append, List.length_cons, List.length_nil, List.replicate, Nat.add_zero, Nat.zero_add, Nat.reduceAdd, Nat.reduceSub, List.getElem?_cons_zero, List.getElem?_cons_succ, List.set_cons_zero, List.set_cons_succ, if_true, if_false, Bool.false_eq_true, reduceCtorEq]
        exact in_str hs (hb.ok f hf) hk
      · rw [any_mapS c.b fun f => decide (f ∈ s)]
        simpa using hP
theorem okS_len {s : List Str} (h : OkS s) : s.length ≤ sizeLine := sz1000 h.len
theorem filter_mapS (s : List Str) (g : Str → Bool) : (s.map D.str).filter (fun d => g (sof d)) = (s.filter g).map D.str := by
  rw [List.filter_map]; rfl
theorem allAlike_str {xs : List D} (h : ∀ x ∈ xs, ∃ f, x = .str f) : allAlike xs := fun x hx y hy => by
  obtain ⟨f, rfl⟩ := h x hx
  obtain ⟨g, rfl⟩ := h y hy
  rfl
theorem sort_str {s : List Str} (h : OkS s) {k : List D → Prop} (q : k ((srt sLt s).map D.str)) : sortR (s.map D.str) k := by
  refine ⟨h.dats, allAlike_str fun x hx => ?_, ?_, by simpa using okS_len h, by rw [sortD_map D.str fun a b => rfl]; exact q⟩
  · obtain ⟨f, _, rfl⟩ := mem_mapS hx; exact ⟨f, rfl⟩
  · unfold sortB
    rw [Bool.or_eq_true, Bool.or_eq_true]
    refine .inl (.inr (List.all_eq_true.mpr fun x hx => ?_))
    obtain ⟨f, _, rfl⟩ := mem_mapS hx
    rfl
def sp_behind : Spec := fun ds st P _ => ∃ c s, ds = [eS s, eP c] ∧ OkS c.a ∧ OkS c.b ∧ OkS s ∧ s.length + c.a.length ≤ 1000 ∧ P (eS (behindF s c)) st
theorem d_behind : Does Γ 6 2 b_behind sp_behind := by
  rintro ds st P ⟨c, s, rfl, ha, hb, hs, hl, hP⟩
  refine ⟨rfl, ?_⟩
  unfold b_behind eP startE
  try simp only [denSs, denS, den, denB, denP, denI, denEs, denO, asg, asgs, wipeE, items1, eS, List.map_cons, List.map_nil, List.cons_append, List.nil_append, List.length_cons, List.length_nil, List.replicate, Nat.add_zero, Nat.zero_add, Nat.reduceAdd, Nat.reduceSub, List.getElem?_cons_zero, List.getElem?_cons_succ, List.set_cons_zero, List.set_cons_succ, if_true, if_false, Bool.false_eq_true, reduceCtorEq]
  refine turns_filter (c := fun d => decide (sof d ∉ c.b) && decide (sof d ∉ c.a)) (g := id) _ [] (by simpa using okS_len hs) (fun d hd k h1 h2 => ?_) ?_
  · obtain ⟨f, hf, rfl⟩ := mem_mapS hd
    have hfo := hs.ok f hf
    refine notin_str hb hfo ?_
    refine ⟨_, rfl, ?_⟩
    simp only [sof] at h1 h2
    by_cases q : f ∉ c.b
    · simp only [q, not_false_eq_true, decide_true, Bool.true_and] at h1 h2 ⊢
      simp only [if_true]
      refine notin_str ha hfo ?_
      refine ⟨_, rfl, ?_⟩
      by_cases q2 : f ∉ c.a
      · simp only [q2, not_false_eq_true, decide_true, if_true] at h1 ⊢; exact h1 trivial
      · simp only [q2, decide_false, Bool.false_eq_true, if_false] at h2 ⊢; exact h2 trivial
    · simp only [q, decide_false, Bool.false_and, Bool.false_eq_true, if_false] at h2 ⊢
      exact ⟨_, rfl, h2 trivial⟩
  · rw [List.nil_append, List.map_id, filter_mapS s fun f => decide (f ∉ c.b) && decide (f ∉ c.a)]
    have hk : OkS (keptF s c ++ c.a) := ⟨fun f hf => by
      rcases List.mem_append.mp hf with z | z
      · exact hs.ok f (mem_kept.mp z).1
      · exact ha.ok f z, by
      rw [List.length_append]
      have : (keptF s c).length ≤ s.length := List.length_filter_le _ _
      omega⟩
    refine ⟨_, rfl, _, _, rfl, rfl, ?_, _, .inl rfl, ?_⟩
    · have := okS_len hk
      simp only [List.length_map]
      rw [List.length_append] at this
      exact this
    · rw [← List.map_append]
      exact sort_str hk ⟨_, rfl, hP⟩
/-! ### states -/
def sp_states : Spec := fun ds st P _ => ∃ fs r, ds = [.tup (eS fs :: r)] ∧ OkS fs ∧ fs.length ≤ 6 ∧ P (.lst ((statesF fs).map eS)) st
theorem ix_tup0 {st : Store} {a : D} {r : List D} {k : D → Prop} (q : k a) : idxR st (.tup (a :: r)) (.int 0) k := ix_tupk at0 q
theorem ix_tup1 {st : Store} {a b : D} {r : List D} {k : D → Prop} (q : k b) : idxR st (.tup (a :: b :: r)) (.int 1) k := ix_tupk at1 q
theorem ix_tup2 {st : Store} {a b c : D} {r : List D} {k : D → Prop} (q : k c) : idxR st (.tup (a :: b :: c :: r)) (.int 2) k := ix_tupk at2 q
theorem ix_tup3 {st : Store} {a b c d : D} {r : List D} {k : D → Prop} (q : k d) : idxR st (.tup (a :: b :: c :: d :: r)) (.int 3) k := ix_tupk at3 q
theorem eS_dat {s : List Str} (h : OkS s) {n : Nat} : (eS s).dat (n + 1) = true := h.dats
theorem alike_strsB : ∀ (a b : List Str), D.alikes (a.map D.str) (b.map D.str) = true
  | [], _ => by simp [D.alikes]
  | _ :: _, [] => rfl
  | a :: as, b :: bs => by simp only [List.map_cons, D.alikes, D.alike, alike_strsB as bs]; rfl
theorem eS_alike (a b : List Str) : (eS a).alike (eS b) = true := alike_strsB a b
theorem fold_head : ∀ (fs : List Str) (acc : List (List Str)), ∃ r, fs.foldl (fun acc f => acc ++ acc.map (· ++ [f])) ([] :: acc) = [] :: r
  | [], acc => ⟨acc, rfl⟩
  | f :: fs, acc => by rw [List.foldl_cons]; exact fold_head fs _
def addS (f : Str) (d : D) : D := match d with | .tup xs => .tup (xs ++ [.str f]) | d => d
theorem addS_eS (f : Str) (s : List Str) : addS f (eS s) = eS (s ++ [f]) := by simp [addS, eS]
theorem d_states : Does Γ 4 1 b_states sp_states := by
  rintro ds st P ⟨fs, r, rfl, hf, hl, hP⟩
  refine ⟨rfl, ?_⟩
  unfold b_states startE
  try simp only [denSs, denS, den, denB, denP, denI, denEs, denO, asg, asgs, wipeE, items1, eS, List.map_cons, List.map_nil, List.cons_append, List.nil_append, List.length_cons, List.length_nil, List.replicate, Nat.add_zero, Nat.zero_add, Nat.reduceAdd, Nat.reduceSub, List.getElem?_cons_zero, List.getElem?_cons_succ, List.set_cons_zero, List.set_cons_succ, if_true, if_false, Bool.false_eq_true, reduceCtorEq]
  refine ⟨by decide, by decide, ix_tup0 ?_⟩
  try simp only [denSs, denS, den, denB, denP, denI, denEs, denO, asg, asgs, wipeE, items1, eS, List.map_cons, List.map_nil, List.cons_append, List.nil_append, List.length_cons, List.length_nil, List.replicate, Nat.add_zero, Nat.zero_add, Nat.reduceAdd, Nat.reduceSub, List.getElem?_cons_zero, List.getElem?_cons_succ, List.set_cons_zero, List.set_cons_succ, if_true, if_false, Bool.false_eq_true, reduceCtorEq]
  refine forL_inv (fun i ρ st' => st' = st ∧ ∃ o2, ρ = [some (.tup (.tup (fs.map D.str) :: r)), some (.lst (((fs.take i).foldl (fun acc f => acc ++ acc.map (· ++ [f])) [[]]).map eS)), o2, none]) _ 0 _ _ ⟨rfl, none, rfl⟩ ?_ ?_
  · rintro i d ρ st1 N hi ⟨rfl, o2, rfl⟩ hN
    rw [Nat.zero_add] at hN ⊢
    rw [List.getElem?_map, Option.map_eq_some_iff] at hi
    obtain ⟨f, hi, rfl⟩ := hi
    have hil : i < fs.length := (List.getElem?_eq_some_iff.mp hi).1
    generalize hacc : (fs.take i).foldl (fun acc f => acc ++ acc.map (· ++ [f])) [[]] = acc at *
    have hal : acc.length ≤ 64 := by
      rw [← hacc, fold_len]
      have : (fs.take i).length ≤ 6 := by rw [List.length_take]; omega
      have : 2 ^ (fs.take i).length ≤ 2 ^ 6 := Nat.pow_le_pow_right (by decide) this
      simpa using this
    have hin : ∀ s ∈ acc, s.length ≤ 6 := fun s hs => by
      rw [← hacc] at hs
      have := (fold_sub (fs.take i) [] [[]] (fun s => by simp) s).mp hs
      have := this.length_le
      simp only [List.nil_append, List.length_take] at this
      omega
    unfold b_states_1
    try simp only [denSs, denS, den, denB, denP, denI, denEs, denO, asg, asgs, wipeE, items1, eS, List.map_cons, List.map_nil, List.cons_append, List.nil_append, List.length_cons, List.length_nil, List.replicate, Nat.add_zero, Nat.zero_add, Nat.reduceAdd, Nat.reduceSub, List.getElem?_cons_zero, List.getElem?_cons_succ, List.set_cons_zero, List.set_cons_succ, if_true, if_false, Bool.false_eq_true, reduceCtorEq]
    refine turns_map (g := addS f) _ [] (by simp only [List.length_nil, List.length_map]; exact sz1000 (by omega)) (fun d hd k hk => ?_) ?_
    · obtain ⟨s, hs, rfl⟩ := List.mem_map.mp hd
      refine ⟨by decide, ?_, hk⟩
      have := hin s hs
      simp only [List.length_map, List.length_singleton]
      exact sz1000 (by omega)
    · refine ⟨_, _, rfl, rfl, ?_, ?_⟩
      · simp only [List.length_map, List.nil_append]
        exact sz1000 (by omega)
      · refine hN _ _ ⟨rfl, some (.str f), ?_⟩
        have e : fs.take (i + 1) = fs.take i ++ [f] := by rw [List.take_add_one, hi]; rfl
        rw [e, List.foldl_append, hacc]
        simp only [List.foldl_cons, List.foldl_nil, List.map_append, List.map_map, List.nil_append, List.getElem?_cons_zero, List.set_cons_succ, List.set_cons_zero, Function.comp_def, addS_eS]
  · rintro ρ st1 ⟨rfl, o2, rfl⟩
    rw [Nat.zero_add, List.length_map, List.take_length]
    try simp only [denSs, denS, den, denB, denP, denI, denEs, denO, asg, asgs, wipeE, items1, eS, List.map_cons, List.map_nil, List.cons_append, List.nil_append, List.length_cons, List.length_nil, List.replicate, Nat.add_zero, Nat.zero_add, Nat.reduceAdd, Nat.reduceSub, List.getElem?_cons_zero, List.getElem?_cons_succ, List.set_cons_zero, List.set_cons_succ, if_true, if_false, Bool.false_eq_true, reduceCtorEq]
    obtain ⟨rr, hr⟩ := fold_head fs []
    refine ⟨_, .inl rfl, ?_⟩
    have hin : ∀ s ∈ fs.foldl (fun acc f => acc ++ acc.map (· ++ [f])) [[]], s.Sublist fs := fun s hs => by
      have := (fold_sub fs [] [[]] (fun s => by simp) s).mp hs
      simpa using this
    refine ⟨dats_iff.mpr fun x hx => ?_, fun x hx y hy => ?_, ?_, ?_, ?_⟩
    · obtain ⟨s, hs, rfl⟩ := List.mem_map.mp hx
      exact eS_dat (hf.sub (hin s hs))
    · obtain ⟨s, _, rfl⟩ := List.mem_map.mp hx
      obtain ⟨t, _, rfl⟩ := List.mem_map.mp hy
      exact eS_alike s t
    · rw [hr]
      unfold sortB
      rw [Bool.or_eq_true, Bool.and_eq_true]
      refine .inr ⟨rfl, List.all_eq_true.mpr fun x hx => ?_⟩
      obtain ⟨s, _, rfl⟩ := List.mem_map.mp hx
      rfl
    · rw [List.length_map, fold_len]
      have : 2 ^ fs.length ≤ 2 ^ 6 := Nat.pow_le_pow_right (by decide) hl
      exact sz1000 (by simp; omega)
    · rw [sortD_map eS eS_lt]
      exact hP
/-! ### walks that gather -/
theorem turnsA_app {C : Store → Prop} {f : D → Store → List D → (List D → Store → Prop) → Prop} {Q : List D → Store → Prop} {h : D → List D} {st : Store} : ∀ (ds acc : List D), (acc ++ ds.flatMap h).length ≤ sizeLine →
    (∀ d ∈ ds, ∀ acc (k : List D → Store → Prop), (acc ++ h d).length ≤ sizeLine → k (acc ++ h d) st → f d st acc k) → Q (acc ++ ds.flatMap h) st → (hC : C st := by trivial) → turnsA C f ds st acc Q
  | [], acc, hl, hf, q, hC => ⟨hC, by simpa using q⟩
  | d :: ds, acc, hl, hf, q, hC => by
    rw [List.flatMap_cons, ← List.append_assoc] at hl q
    refine ⟨hC, hf d List.mem_cons_self acc _ ?_ (turnsA_app ds _ hl (fun e he => hf e (List.mem_cons_of_mem _ he)) q hC)⟩
    rw [List.length_append] at hl
    omega
theorem turnsA_inv {α : Type} {C : Store → Prop} {f : D → Store → α → (α → Store → Prop) → Prop} {Q : α → Store → Prop} (J : Nat → α → Store → Prop) : ∀ (ds : List D) (i : Nat) (st : Store) (acc : α), J i acc st →
    (∀ j d st acc (k : α → Store → Prop), ds[j]? = some d → J (i + j) acc st → (∀ acc' st', J (i + j + 1) acc' st' → k acc' st') → f d st acc k) →
    (∀ acc st, J (i + ds.length) acc st → Q acc st) → (hC : ∀ i acc st, J i acc st → C st := by intros; trivial) → turnsA C f ds st acc Q
  | [], i, st, acc, h, step, hd, hC => ⟨hC _ _ _ h, hd acc st (by simpa using h)⟩
  | d :: ds, i, st, acc, h, step, hd, hC => by
    simp only [List.length_cons] at hd
    refine ⟨hC _ _ _ h, step 0 d st acc _ rfl h fun acc' st' h' => ?_⟩
    exact turnsA_inv J ds (i + 1) st' acc' h' (fun j e st acc k hj hJ h1 => step (j + 1) e st acc k (by simpa using hj) (by rw [show i + (j + 1) = i + 1 + j by omega]; exact hJ)
      (fun x st' z => h1 x st' (by rw [show i + 1 + j + 1 = i + (j + 1) + 1 by omega]; exact z))) (fun acc st z => hd acc st (by rw [show i + (ds.length + 1) = i + 1 + ds.length by omega]; exact z)) hC
theorem flat_one (g : D → D) : ∀ ds : List D, ds.flatMap (fun d => [g d]) = ds.map g
  | [] => rfl
  | d :: ds => by rw [List.flatMap_cons, flat_one g ds]; rfl
/-- a plain walk that adds one thing each -/
theorem turnsA_one {C : Store → Prop} {f : D → Store → List D → (List D → Store → Prop) → Prop} {Q : List D → Store → Prop} {g : D → D} {st : Store} (ds acc : List D) (hl : acc.length + ds.length ≤ sizeLine)
    (hf : ∀ d ∈ ds, ∀ acc (k : List D → Store → Prop), acc.length < sizeLine → k (acc ++ [g d]) st → f d st acc k) (q : Q (acc ++ ds.map g) st) (hC : C st := by trivial) : turnsA C f ds st acc Q := by
  have e := flat_one g ds
  refine turnsA_app (h := fun d => [g d]) ds acc (by rw [e]; simpa using hl) (fun d hd acc k h1 h2 => hf d hd acc k ?_ h2) (by rw [e]; exact q) hC
  rw [List.length_append, List.length_singleton] at h1
  omega
/-! ### places -/
def iofN (d : D) : Nat := match d with | .int i => i.toNat | _ => 0
def sp_places : Spec := fun ds st P _ => ∃ w S M, ds = [eW w, .int (Nat.cast S), .int (Nat.cast M)] ∧ OkS w.facts ∧ w.facts.length ≤ 6 ∧ S ≤ 20 ∧ M ≤ 20 ∧ P (.lst ((placesF w S M).map ePl)) st
theorem rangeL0 (n : Nat) : rangeL 0 n = (List.range n).map fun (i : Nat) => D.int i := by unfold rangeL; simp
def eC (c : Nat × Nat) : D := .tup [.int c.1, .int c.2]
theorem flat_map_map {α β γ δ : Type} (f : α → D) (l : List α) (h : D → List D) (g : α → List β) (e : β → D) (he : ∀ a, h (f a) = (g a).map e) : (l.map f).flatMap h = (l.flatMap g).map e := by
  induction l with
  | nil => rfl
  | cons a l ih => rw [List.map_cons, List.flatMap_cons, List.flatMap_cons, List.map_append, ih, he]
theorem d_places (h1 : Γ.fn "states" = some sp_states) : Does Γ 7 3 b_places sp_places := by
  rintro ds st P ⟨w, S, M, rfl, hf, hl, hS, hM, hP⟩
  refine ⟨rfl, ?_⟩
  unfold b_places startE eW
  try simp only [denSs, denS, den, denB, denP, denI, denEs, denO, asg, asgs, wipeE, items1, eS, List.map_cons, List.map_nil, List.cons_append, List.nil_append, List.length_cons, List.length_nil, List.replicate, Nat.add_zero, Nat.zero_add, Nat.reduceAdd, Nat.reduceSub, List.getElem?_cons_zero, List.getElem?_cons_succ, List.set_cons_zero, List.set_cons_succ, if_true, if_false, Bool.false_eq_true, reduceCtorEq]
  refine ⟨_, rfl, by omega, ?_⟩
  have ec : ((rangeL 0 ((S : Int) + 1).toNat).flatMap fun d => (rangeL 0 (M + 1)).map fun e => D.tup [d, e]) = (countsF S M).map eC := by
    have e1 : ((S : Int) + 1).toNat = S + 1 := by omega
    rw [e1, rangeL0]
    refine flat_map_map (γ := Nat) (δ := Nat) _ _ _ (fun a => (List.range (M + 1)).map fun b => (a, b)) eC fun a => ?_
    rw [List.map_map, List.map_map]
    refine List.map_congr_left fun b _ => ?_
    simp [eC]
  have hcl : (countsF S M).length ≤ 441 := by
    rw [counts_len]
    exact Nat.mul_le_mul (show S + 1 ≤ 21 by omega) (show M + 1 ≤ 21 by omega)
  refine turnsA_app (h := fun d => (rangeL 0 (M + 1)).map fun e => D.tup [d, e]) _ [] (by rw [ec]; simp only [List.nil_append, List.length_map]; exact sz1000 (by omega)) (fun d hd acc k hk1 hk => ?_) ?_
  · refine ⟨_, rfl, ?_⟩
    try simp only [denSs, denS, den, denB, denP, denI, denEs, denO, asg, asgs, wipeE, items1, eS, List.map_cons, List.map_nil, List.cons_append, List.nil_append, List.length_cons, List.length_nil, List.replicate, Nat.add_zero, Nat.zero_add, Nat.reduceAdd, Nat.reduceSub, List.getElem?_cons_zero, List.getElem?_cons_succ, List.set_cons_zero, List.set_cons_succ, if_true, if_false, Bool.false_eq_true, reduceCtorEq]
    refine ⟨_, rfl, by omega, ?_⟩
    have e1 : ((M : Int) + 1).toNat = M + 1 := by omega
    rw [e1]
    refine turnsA_one (g := fun e => D.tup [d, e]) _ _ (by simp only [List.length_append, List.length_map] at hk1; exact hk1) (fun e he acc k ha hk => ?_) hk
    refine ⟨_, rfl, ?_⟩
    try simp only [denSs, denS, den, denB, denP, denI, denEs, denO, asg, asgs, wipeE, items1, eS, List.map_cons, List.map_nil, List.cons_append, List.nil_append, List.length_cons, List.length_nil, List.replicate, Nat.add_zero, Nat.zero_add, Nat.reduceAdd, Nat.reduceSub, List.getElem?_cons_zero, List.getElem?_cons_succ, List.set_cons_zero, List.set_cons_succ, if_true, if_false, Bool.false_eq_true, reduceCtorEq]
    exact ⟨by decide, ha, hk⟩
  · rw [List.nil_append, ec]
    try simp only [denSs, denS, den, denB, denP, denI, denEs, denO, asg, asgs, wipeE, items1, eS, List.map_cons, List.map_nil, List.cons_append, List.nil_append, List.length_cons, List.length_nil, List.replicate, Nat.add_zero, Nat.zero_add, Nat.reduceAdd, Nat.reduceSub, List.getElem?_cons_zero, List.getElem?_cons_succ, List.set_cons_zero, List.set_cons_succ, if_true, if_false, Bool.false_eq_true, reduceCtorEq]
    simp only [h1]
    refine ⟨w.facts, _, rfl, hf, hl, ?_⟩
    try simp only [denSs, denS, den, denB, denP, denI, denEs, denO, asg, asgs, wipeE, items1, eS, List.map_cons, List.map_nil, List.cons_append, List.nil_append, List.length_cons, List.length_nil, List.replicate, Nat.add_zero, Nat.zero_add, Nat.reduceAdd, Nat.reduceSub, List.getElem?_cons_zero, List.getElem?_cons_succ, List.set_cons_zero, List.set_cons_succ, if_true, if_false, Bool.false_eq_true, reduceCtorEq]
    have hsl : (statesF w.facts).length ≤ 64 := by
      rw [states_len]
      exact Nat.pow_le_pow_right (n := 2) (by decide) hl
    have ep : (((statesF w.facts).map eS).flatMap fun d => ((countsF S M).map eC).map fun c => match c with | .tup [a, b] => D.tup [d, a, b] | c => c) = (placesF w S M).map ePl := by
      unfold placesF
      refine flat_map_map (γ := Nat) (δ := Nat) _ _ _ _ ePl fun s => ?_
      rw [List.map_map, List.map_map]
      rfl
    have hpl : (placesF w S M).length ≤ 28224 := by
      rw [places_len]
      have : 2 ^ w.facts.length ≤ 64 := Nat.pow_le_pow_right (n := 2) (by decide) hl
      exact Nat.mul_le_mul this (Nat.mul_le_mul (show S + 1 ≤ 21 by omega) (show M + 1 ≤ 21 by omega))
    refine turnsA_app (h := fun d => ((countsF S M).map eC).map fun c => match c with | .tup [a, b] => D.tup [d, a, b] | c => c) _ [] (by rw [ep]; simp only [List.nil_append, List.length_map]; exact Nat.le_trans hpl (by decide)) (fun d hd acc k hk1 hk => ?_) ?_
    · refine ⟨_, rfl, ?_⟩
      try simp only [denSs, denS, den, denB, denP, denI, denEs, denO, asg, asgs, wipeE, items1, eS, List.map_cons, List.map_nil, List.cons_append, List.nil_append, List.length_cons, List.length_nil, List.replicate, Nat.add_zero, Nat.zero_add, Nat.reduceAdd, Nat.reduceSub, List.getElem?_cons_zero, List.getElem?_cons_succ, List.set_cons_zero, List.set_cons_succ, if_true, if_false, Bool.false_eq_true, reduceCtorEq]
      refine turnsA_one (g := fun c => match c with | .tup [a, b] => D.tup [d, a, b] | c => c) _ _ (by simp only [List.length_append, List.length_map] at hk1 ⊢; exact hk1) (fun e he acc k ha hk => ?_) hk
      obtain ⟨c, _, rfl⟩ := List.mem_map.mp he
      unfold eC at hk ⊢
      try simp only [denSs, denS, den, denB, denP, denI, denEs, denO, asg, asgs, wipeE, items1, eS, List.map_cons, List.map_nil, List.cons_append, List.nil_append, List.length_cons, List.length_nil, List.replicate, Nat.add_zero, Nat.zero_add, Nat.reduceAdd, Nat.reduceSub, List.getElem?_cons_zero, List.getElem?_cons_succ, List.set_cons_zero, List.set_cons_succ, if_true, if_false, Bool.false_eq_true, reduceCtorEq]
      refine ⟨_, rfl, ?_⟩
      try simp only [denSs, denS, den, denB, denP, denI, denEs, denO, asg, asgs, wipeE, items1, eS, List.map_cons, List.map_nil, List.cons_append, List.nil_append, List.length_cons, List.length_nil, List.replicate, Nat.add_zero, Nat.zero_add, Nat.reduceAdd, Nat.reduceSub, List.getElem?_cons_zero, List.getElem?_cons_succ, List.set_cons_zero, List.set_cons_succ, if_true, if_false, Bool.false_eq_true, reduceCtorEq]
      exact ⟨by decide, ha, hk⟩
    · rw [List.nil_append, ep]
      exact hP
/-! ### where deeds lead -/
theorem hash_strs : ∀ s : List Str, D.hashBs (s.map D.str) = true
  | [] => rfl
  | a :: s => by simp only [List.map_cons, D.hashBs, D.hashB, hash_strs s]; rfl
theorem key_pl {p : Pl} (h : OkS p.st) : isKey (ePl p) = true := by
  unfold isKey ePl
  simp only [D.dat, D.dats, eS, h.dats, D.hashB, D.hashBs, hash_strs, Bool.and_true, Bool.and_self]
theorem WfW.okS {w : Wr} (h : WfW w) : OkS w.facts := ⟨h.ok, Nat.le_trans h.len (by decide)⟩
theorem WfPr.okA {fs : List Str} {c : Pr} (h : WfPr fs c) (k : OkS fs) : OkS c.a := k.sub h.a
theorem WfPr.okB {fs : List Str} {c : Pr} (h : WfPr fs c) (k : OkS fs) : OkS c.b := k.sub h.b
/-- a call that changes nothing -/
theorem call_ev {f : Str} {es : Es} {sp : Spec} {ρ : Env} {st : Store} {Q : Post} (h : Γ.fn f = some sp) {ds : List D} (he : ∀ R : List D → Store → Prop, R ds st → denEs Γ X0 es ρ st R) (hs : sp ds st Q X0) : den Γ X0 (.call f es) ρ st Q := by
  rw [den]
  refine he _ ?_
  rw [h]
  exact hs
theorem behind_call (h1 : Γ.fn "behind" = some sp_behind) {fs s : List Str} {c : Pr} (hi : Inc sLt fs) (hf : OkS fs) (hl : fs.length ≤ 6) (hs : s.Sublist fs) (hc : WfPr fs c) {st : Store} {Q : Post} (q : Q (eS (behindF s c)) st) : sp_behind [eS s, eP c] st Q X0 :=
  ⟨c, s, rfl, hc.okA hf, hc.okB hf, hf.sub hs, by have := hs.length_le; have := hc.a.length_le; omega, q⟩
theorem holds_call {fs s : List Str} {c : Pr} (hf : OkS fs) (hs : s.Sublist fs) (hc : WfPr fs c) {st : Store} {Q : Post} (q : Q (.bl (holdsB c s)) st) : sp_holds [eP c, eS s] st Q X0 :=
  ⟨c, s, rfl, hc.okA hf, hc.okB hf, hf.sub hs, q⟩
abbrev eT : List Pl → List (D × D) := eKs ePl (.bl true)
theorem eT_keys (ks : List Pl) : (eT ks).map (·.1) = ks.map ePl := by unfold eT eKs; rw [List.map_map]; rfl
theorem eKs_len {κ : Type} {e : κ → D} {x : D} {l : List κ} : (eKs e x l).length = l.length := by unfold eKs; rw [List.length_map]
theorem dct_loc {st : Store} {a : Addr} {kvs : List (D × D)} {ep : Nat} (h : st a = some (.dct kvs ep)) : dctOf st (.loc a) = some kvs := by show (match st a with | some (.dct xs _) => some xs | _ => none) = _; rw [h]
theorem meddled_snoc {meds : List Md} {j : Nat} {m : Md} {q : Pl} (h : meds[j]? = some m) : meddled (meds.take (j + 1)) q = meddled (meds.take j) q ++ if holdsB m.cond q.st = true then [⟨behindF q.st m.ch, q.s, q.m - 1⟩] else [] := by
  have e : meds.take (j + 1) = meds.take j ++ [m] := by rw [List.take_add_one, h]; rfl
  rw [e]
  unfold meddled
  rw [List.filter_append, List.map_append]
  by_cases hh : holdsB m.cond q.st = true <;> simp [hh]
theorem sort_pl {qs : List Pl} (hq : ∀ q ∈ qs, OkS q.st) (hl : qs.length ≤ sizeLine) {k : List D → Prop} (h : k ((srt plLt qs).map ePl)) : sortR (qs.map ePl) k := by
  refine ⟨dats_iff.mpr fun x hx => ?_, fun x hx y hy => ?_, ?_, by rw [List.length_map]; exact hl, by rw [sortD_map ePl ePl_lt]; exact h⟩
  · obtain ⟨q, h1, rfl⟩ := List.mem_map.mp hx
    unfold ePl
    simp only [D.dat, D.dats, eS, (hq q h1).dats, Bool.and_true]
  · obtain ⟨p, _, rfl⟩ := List.mem_map.mp hx
    obtain ⟨q, _, rfl⟩ := List.mem_map.mp hy
    unfold ePl
    simp only [D.alike, D.alikes, eS_alike, Bool.and_true]
  · unfold sortB
    rw [Bool.or_eq_true, Bool.or_eq_true]
    refine .inl (.inl (List.all_eq_true.mpr fun x hx => ?_))
    obtain ⟨q, _, rfl⟩ := List.mem_map.mp hx
    rfl
theorem meddled_len {meds : List Md} {q : Pl} : (meddled meds q).length ≤ meds.length := by unfold meddled; rw [List.length_map]; exact List.length_filter_le _ _
theorem fold_med_len {meds : List Md} : ∀ (qs acc : List Pl), (qs.foldl (fun acc q => (meddled meds q).foldl insK acc) acc).length ≤ acc.length + qs.length * meds.length
  | [], acc => by simp
  | q :: qs, acc => by
    rw [List.foldl_cons]
    have h1 := fold_med_len (meds := meds) qs ((meddled meds q).foldl insK acc)
    have h2 : ((meddled meds q).foldl insK acc).length ≤ acc.length + meds.length := Nat.le_trans len_insKs (Nat.add_le_add_left meddled_len _)
    rw [List.length_cons, Nat.succ_mul]
    omega
section
variable (h1 : Γ.fn "behind" = some sp_behind) (h2 : Γ.fn "holds" = some sp_holds) {w : Wr} (hw : WfW w)
include h1 h2 hw
/-- the meddles behind one end -/
theorem leads_in1 {a : Addr} {st0 : Store} {q : Pl} {S M : Nat} {o1 o2 o4 o5 o6 o10 o11 o12 : Option D} {acc : List Pl} {st : Store} {ep : Nat} {K : Kn} (hq : PlIn w.facts S M q) (hm : 0 < q.m) (hl : acc.length ≤ 100000) (ha : st a = some (.dct (eT acc) ep)) (hx : Ext st0 st) (n0 : st0 a = none)
    (hK : ∀ o10 o11 o12 st' ep', Ext st0 st' → st' a = some (.dct (eT ((meddled w.meds q).foldl insK acc)) ep') → K.nx [some (eW w), o1, o2, some (.loc a), o4, o5, o6, some (eS q.st), some (.int q.s), some (.int q.m), o10, o11, o12] st') :
    forL (.tup (.cons (.var 10) (.cons (.var 11) (.cons (.var 12) .nil)))) (fun ρ st K => denSs Γ X0 b_leads_of_1 K ρ st) K CT (w.meds.map eMd) [some (eW w), o1, o2, some (.loc a), o4, o5, o6, some (eS q.st), some (.int q.s), some (.int q.m), o10, o11, o12] st := by
  refine forL_inv (fun j ρ st' => ∃ o10 o11 o12 ep', ρ = [some (eW w), o1, o2, some (.loc a), o4, o5, o6, some (eS q.st), some (.int q.s), some (.int q.m), o10, o11, o12] ∧ Ext st0 st' ∧ st' a = some (.dct (eT ((meddled (w.meds.take j) q).foldl insK acc)) ep')) _ 0 _ _ ⟨o10, o11, o12, ep, rfl, hx, by simpa [meddled] using ha⟩ ?_ ?_
  · rintro j d ρ st1 N hj ⟨o10, o11, o12, ep1, rfl, hx1, ha1⟩ hN
    rw [Nat.zero_add] at hN ha1
    rw [List.getElem?_map, Option.map_eq_some_iff] at hj
    obtain ⟨m, hj, rfl⟩ := hj
    have hmm := hw.meds m (List.mem_of_getElem? hj)
    have hlen : ((meddled (w.meds.take j) q).foldl insK acc).length < sizeLine := by
      refine Nat.lt_of_le_of_lt len_insKs ?_
      have h3 : (meddled (w.meds.take j) q).length ≤ (w.meds.take j).length := meddled_len
      have h4 : (w.meds.take j).length ≤ 100 := by rw [List.length_take]; have := hw.manyM; omega
      have h5 : (100200 : Nat) < sizeLine := by decide
      omega
    have hsn := meddled_snoc (q := q) hj
    unfold b_leads_of_1 eMd
    try simp only [denSs, denS, den, denB, denP, denI, denEs, denO, asg, asgs, wipeE, items1, eS, List.map_cons, List.map_nil, List.cons_append, List.nil_append, List.length_cons, List.length_nil, List.replicate, Nat.add_zero, Nat.zero_add, Nat.reduceAdd, Nat.reduceSub, List.getElem?_cons_zero, List.getElem?_cons_succ, List.set_cons_zero, List.set_cons_succ, if_true, if_false, Bool.false_eq_true, reduceCtorEq]
    rw [h2]
    refine holds_call hw.okS hq.st hmm.cond ⟨_, rfl, ?_⟩
    cases hh : holdsB m.cond q.st with
    | false =>
      try simp only [denSs, denS, den, denB, denP, denI, denEs, denO, asg, asgs, wipeE, items1, eS, List.map_cons, List.map_nil, List.cons_append, List.nil_append, List.length_cons, List.length_nil, List.replicate, Nat.add_zero, Nat.zero_add, Nat.reduceAdd, Nat.reduceSub, List.getElem?_cons_zero, List.getElem?_cons_succ, List.set_cons_zero, List.set_cons_succ, if_true, if_false, Bool.false_eq_true, reduceCtorEq]
      refine hN _ _ ⟨_, _, _, ep1, rfl, hx1, ?_⟩
      rw [hsn, hh]
      simpa using ha1
    | true =>
      try simp only [denSs, denS, den, denB, denP, denI, denEs, denO, asg, asgs, wipeE, items1, eS, List.map_cons, List.map_nil, List.cons_append, List.nil_append, List.length_cons, List.length_nil, List.replicate, Nat.add_zero, Nat.zero_add, Nat.reduceAdd, Nat.reduceSub, List.getElem?_cons_zero, List.getElem?_cons_succ, List.set_cons_zero, List.set_cons_succ, if_true, if_false, Bool.false_eq_true, reduceCtorEq]
      rw [h1]
      refine behind_call h1 hw.inc hw.okS hw.len hq.st hmm.ch ?_
      refine ⟨by decide, a, _, rfl, ha1, ?_⟩
      have ek : (D.tup [eS (behindF q.st m.ch), .int q.s, .int ((q.m : Int) - 1)]) = ePl ⟨behindF q.st m.ch, q.s, q.m - 1⟩ := by
        unfold ePl
        have : ((q.m - 1 : Nat) : Int) = (q.m : Int) - 1 := by omega
        rw [this]
      rw [ek]
      have hb : OkS (behindF q.st m.ch) := hw.okS.sub (behind_sub hw.inc hq.st hmm.ch.a)
      refine ⟨key_pl hb, by rw [eKs_len]; exact hlen, fun ep2 => ?_⟩
      refine hN _ _ ⟨_, _, _, ep2, rfl, hx1.bump n0, ?_⟩
      rw [Store.set_same, put_ks ePl_eqv, hsn, hh]
      simp
  · rintro ρ st1 ⟨o10, o11, o12, ep1, rfl, hx1, ha1⟩
    rw [Nat.zero_add, List.length_map, List.take_length] at ha1
    exact hK _ _ _ _ _ hx1 ha1
/-- the meddles behind all ends -/
theorem leads_in2 {a : Addr} {st0 : Store} {ks : List Pl} {S M : Nat} {o1 o2 o4 o5 o6 o7 o8 o9 o10 o11 o12 : Option D} {st : Store} {ep : Nat} {K : Kn} (hq : ∀ q ∈ ks, PlIn w.facts S M q ∧ 0 < q.m) (hl : ks.length ≤ 200) (ha : st a = some (.dct (eT ks) ep)) (hx : Ext st0 st) (n0 : st0 a = none)
    (hK : ∀ o7 o8 o9 o10 o11 o12 st' ep', Ext st0 st' → st' a = some (.dct (eT (ends1 w.meds ks)) ep') → K.nx [some (eW w), o1, o2, some (.loc a), o4, o5, o6, o7, o8, o9, o10, o11, o12] st') :
    forL (.tup (.cons (.var 7) (.cons (.var 8) (.cons (.var 9) .nil)))) (fun ρ st K => denSs Γ X0 b_leads_of_2 K ρ st) K CT (ks.map ePl) [some (eW w), o1, o2, some (.loc a), o4, o5, o6, o7, o8, o9, o10, o11, o12] st := by
  refine forL_inv (fun j ρ st' => ∃ o7 o8 o9 o10 o11 o12 ep', ρ = [some (eW w), o1, o2, some (.loc a), o4, o5, o6, o7, o8, o9, o10, o11, o12] ∧ Ext st0 st' ∧ st' a = some (.dct (eT ((ks.take j).foldl (fun acc q => (meddled w.meds q).foldl insK acc) ks)) ep')) _ 0 _ _
    ⟨_, _, _, _, _, _, ep, rfl, hx, by simpa using ha⟩ ?_ ?_
  · rintro j d ρ st1 N hj ⟨o7, o8, o9, o10, o11, o12, ep1, rfl, hx1, ha1⟩ hN
    rw [Nat.zero_add] at hN ha1
    rw [List.getElem?_map, Option.map_eq_some_iff] at hj
    obtain ⟨q, hj, rfl⟩ := hj
    obtain ⟨q1, q2⟩ := hq q (List.mem_of_getElem? hj)
    have hlen : ((ks.take j).foldl (fun acc q => (meddled w.meds q).foldl insK acc) ks).length ≤ 100000 := by
      refine Nat.le_trans (fold_med_len _ _) ?_
      have h3 : (ks.take j).length ≤ 200 := by rw [List.length_take]; omega
      have h4 := Nat.mul_le_mul h3 hw.manyM
      omega
    unfold b_leads_of_2 ePl
    try simp only [denSs, denS, den, denB, denP, denI, denEs, denO, asg, asgs, wipeE, items1, eS, List.map_cons, List.map_nil, List.cons_append, List.nil_append, List.length_cons, List.length_nil, List.replicate, Nat.add_zero, Nat.zero_add, Nat.reduceAdd, Nat.reduceSub, List.getElem?_cons_zero, List.getElem?_cons_succ, List.set_cons_zero, List.set_cons_succ, if_true, if_false, Bool.false_eq_true, reduceCtorEq]
    unfold eW
    refine ix_tup2 ?_
    try simp only [denSs, denS, den, denB, denP, denI, denEs, denO, asg, asgs, wipeE, items1, eS, List.map_cons, List.map_nil, List.cons_append, List.nil_append, List.length_cons, List.length_nil, List.replicate, Nat.add_zero, Nat.zero_add, Nat.reduceAdd, Nat.reduceSub, List.getElem?_cons_zero, List.getElem?_cons_succ, List.set_cons_zero, List.set_cons_succ, if_true, if_false, Bool.false_eq_true, reduceCtorEq]
    have e : ks.take (j + 1) = ks.take j ++ [q] := by rw [List.take_add_one, hj]; rfl
    exact leads_in1 h1 h2 hw q1 q2 hlen ha1 hx1 n0 fun o10 o11 o12 st' ep' hx' ha' => hN _ _ ⟨_, _, _, _, _, _, ep', rfl, hx', by rw [e, List.foldl_append]; exact ha'⟩
  · rintro ρ st1 ⟨o7, o8, o9, o10, o11, o12, ep1, rfl, hx1, ha1⟩
    rw [Nat.zero_add, List.length_map, List.take_length] at ha1
    exact hK _ _ _ _ _ _ _ _ hx1 ha1
end
def sp_leads_of : Spec := fun ds st P _ => ∃ w p d S M, ds = [eW w, ePl p, eDd d] ∧ WfW w ∧ WfDd w.facts d ∧ PlIn w.facts S M p ∧ ∀ st', Ext st st' → P (.lst ((leadsF w p d).map ePl)) st'
theorem ends0_s {p q : Pl} {chs : List Pr} (h : q ∈ ends0 p chs) : q.m = p.m := by
  have := mem_ends0.mp h
  unfold End0 at this
  split at this
  · exact this.elim
  · rcases this with rfl | ⟨_, c', _, rfl⟩ <;> rfl
theorem cut_tail {xs : List D} : cutD xs (some 1) none = xs.drop 1 := cut1 xs
theorem eT_fold (f : Pr → Pl) (cs : List Pr) : ∀ acc : List Pl, cs.foldl (fun l c => put l (ePl (f c)) (.bl true)) (eT acc) = eT ((cs.map f).foldl insK acc) := by
  induction cs with
  | nil => intro acc; rfl
  | cons c cs ih => intro acc; rw [List.foldl_cons, put_ks ePl_eqv, ih, List.map_cons, List.foldl_cons]
theorem d_leads_of (h1 : Γ.fn "behind" = some sp_behind) (h2 : Γ.fn "holds" = some sp_holds) : Does Γ 13 3 b_leads_of sp_leads_of := by
  rintro ds st P ⟨w, p, d, S, M, rfl, hw, hd, hp, hP⟩
  refine ⟨rfl, ?_⟩
  obtain ⟨c, cs, hcs⟩ : ∃ c cs, d.chs = c :: cs := by
    cases q : d.chs with
    | nil => exact (hd.ne q).elim
    | cons c cs => exact ⟨c, cs, rfl⟩
  have hc : WfPr w.facts c := hd.chs c (by rw [hcs]; exact List.mem_cons_self)
  have hcc : ∀ c' ∈ cs, WfPr w.facts c' := fun c' h => hd.chs c' (by rw [hcs]; exact List.mem_cons_of_mem _ h)
  have hcl : cs.length < 100 := by have := hd.many; rw [hcs, List.length_cons] at this; omega
  have hb : ∀ c', WfPr w.facts c' → OkS (behindF p.st c') := fun c' h => hw.okS.sub (behind_sub hw.inc hp.st h.a)
  -- the end: sorted
  have fin : ∀ (ks : List Pl) (a : Addr) (st1 : Store) (ep : Nat) (o7 o8 o9 o10 o11 o12 : Option D), srt plLt ks = leadsF w p d → (∀ q ∈ ks, PlIn w.facts S M q) → ks.length ≤ 100000 → Ext st st1 → st1 a = some (.dct (eT ks) ep) →
      denSs Γ X0 (.cons (.ret (.fr (.sorted (.var 3)))) .nil) { nx := fun _ st => P .non st, rt := P } [some (eW w), some (ePl p), some (eDd d), some (.loc a), some (eS p.st), some (.int p.s), some (.int p.m), o7, o8, o9, o10, o11, o12] st1 := by
    intro ks a st1 ep o7 o8 o9 o10 o11 o12 e hin hl hx ha
    try simp only [denSs, denS, den, denB, denP, denI, denEs, denO, asg, asgs, wipeE, items1, eS, List.map_cons, List.map_nil, List.cons_append, List.nil_append, List.length_cons, List.length_nil, List.replicate, Nat.add_zero, Nat.zero_add, Nat.reduceAdd, Nat.reduceSub, List.getElem?_cons_zero, List.getElem?_cons_succ, List.set_cons_zero, List.set_cons_succ, if_true, if_false, Bool.false_eq_true, reduceCtorEq]
    refine ⟨_, .inr ⟨_, dct_loc ha, rfl⟩, ?_⟩
    rw [eT_keys]
    refine sort_pl (fun q hq => hw.okS.sub (hin q hq).st) (Nat.le_trans hl (by decide)) ?_
    rw [e]
    exact hP _ hx
  -- the meddles
  have med : ∀ (a : Addr) (st1 : Store) (ep : Nat), st a = none → Ext st st1 → st1 a = some (.dct (eT (ends0 p d.chs)) ep) →
      denSs Γ X0 (.cons (.ife (.cmp .Gt (.var 6) (.int 0)) (.cons (.for (.tup (.cons (.var 7) (.cons (.var 8) (.cons (.var 9) .nil)))) (.of (.fr (.listK (.var 3)))) b_leads_of_2) .nil) .nil) (.cons (.ret (.fr (.sorted (.var 3)))) .nil)) { nx := fun _ st => P .non st, rt := P }
        [some (eW w), some (ePl p), some (eDd d), some (.loc a), some (eS p.st), some (.int p.s), some (.int p.m), none, none, none, none, none, none] st1 := by
    intro a st1 ep n0 hx ha
    have hin : ∀ q ∈ ends0 p d.chs, PlIn w.facts S M q := fun q hq => End0.in_ hw.inc hp hd.chs (mem_ends0.mp hq)
    have hlen : (ends0 p d.chs).length ≤ 200 := by have := ends0_len (p := p) (chs := d.chs); have := hd.many; omega
    rw [denSs]
    refine cons_ife' (decide (0 < p.m)) (fun Q hQ => by (try simp only [denSs, denS, den, denB, denP, denI, denEs, denO, asg, asgs, wipeE, items1, eS, List.map_cons, List.map_nil, List.cons_append, List.nil_append, List.length_cons, List.length_nil, List.replicate, Nat.add_zero, Nat.zero_add, Nat.reduceAdd, Nat.reduceSub, List.getElem?_cons_zero, List.getElem?_cons_succ, List.set_cons_zero, List.set_cons_succ, if_true, if_false, Bool.false_eq_true, reduceCtorEq]); rw [ci_gt]; simpa using hQ) ?_
    by_cases hm : 0 < p.m
    · simp only [hm, decide_true, if_true]
      rw [denSs]
      rw [denS]
      try simp only [denSs, denS, den, denB, denP, denI, denEs, denO, asg, asgs, wipeE, items1, eS, List.map_cons, List.map_nil, List.cons_append, List.nil_append, List.length_cons, List.length_nil, List.replicate, Nat.add_zero, Nat.zero_add, Nat.reduceAdd, Nat.reduceSub, List.getElem?_cons_zero, List.getElem?_cons_succ, List.set_cons_zero, List.set_cons_succ, if_true, if_false, Bool.false_eq_true, reduceCtorEq]
      refine ⟨_, dct_loc ha, by rw [eKs_len]; exact Nat.le_trans hlen (by decide), ?_⟩
      rw [eT_keys]
      refine leads_in2 h1 h2 hw (S := S) (M := M) (fun q hq => ⟨hin q hq, by rw [ends0_s hq]; exact hm⟩) hlen ha hx n0 fun o7 o8 o9 o10 o11 o12 st' ep' hx' ha' => ?_
      refine fin _ a st' ep' o7 o8 o9 o10 o11 o12 ?_ (fun q hq => ?_) ?_ hx' ha'
      · unfold leadsF; rw [if_neg (by omega)]
      · have : q ∈ leadsF w p d := by unfold leadsF; rw [if_neg (by omega), mem_srt]; exact hq
        exact leads_in hw hp hd this
      · refine Nat.le_trans (fold_med_len _ _) ?_
        have := Nat.mul_le_mul hlen hw.manyM
        omega
    · have hm0 : p.m = 0 := by omega
      simp only [hm, decide_false, Bool.false_eq_true, if_false]
      rw [denSs]
      refine fin _ a st1 ep none none none none none none (by unfold leadsF; rw [if_pos hm0]) hin (by omega) hx ha
  unfold b_leads_of startE
  have epl : ePl p = .tup [eS p.st, .int p.s, .int p.m] := rfl
  rw [denSs, denS]
  simp only [den, epl, asg, asgs, List.map_cons, List.map_nil, List.cons_append, List.nil_append, List.length_cons, List.length_nil, List.replicate, Nat.reduceAdd, Nat.reduceSub, List.getElem?_cons_zero, List.getElem?_cons_succ, List.set_cons_zero, List.set_cons_succ]
  rw [← epl]
  rw [denSs, denS]
  simp only [den, denP, denEs, asg, List.getElem?_cons_zero, List.getElem?_cons_succ, List.set_cons_zero, List.set_cons_succ]
  have e3 : eDd d = .tup [.str d.name, .int d.cost, eP d.cond, .tup (eP c :: cs.map eP)] := by unfold eDd; rw [hcs]; rfl
  rw [e3]
  refine ix_tup3 (ix_tup0 ?_)
  rw [h1]
  refine behind_call h1 hw.inc hw.okS hw.len hp.st hc ⟨(by decide : 3 ≤ sizeLine), key_pl (p := ⟨behindF p.st c, p.s, p.m⟩) (hb c hc), fun ep a n0 => ?_⟩
  rw [← e3]
  have ha1 : (st.set a (.dct [(.tup [eS (behindF p.st c), .int p.s, .int p.m], .bl true)] ep)) a = some (.dct (eT [⟨behindF p.st c, p.s, p.m⟩]) ep) := Store.set_same
  generalize hst1 : st.set a (.dct [(.tup [eS (behindF p.st c), .int p.s, .int p.m], .bl true)] ep) = st1 at ha1
  have hx1 : Ext st st1 := by rw [← hst1]; exact Ext.new n0
  rw [denSs]
  refine cons_ife' (decide (0 < p.s)) (fun Q hQ => by (try simp only [denSs, denS, den, denB, denP, denI, denEs, denO, asg, asgs, wipeE, items1, eS, List.map_cons, List.map_nil, List.cons_append, List.nil_append, List.length_cons, List.length_nil, List.replicate, Nat.add_zero, Nat.zero_add, Nat.reduceAdd, Nat.reduceSub, List.getElem?_cons_zero, List.getElem?_cons_succ, List.set_cons_zero, List.set_cons_succ, if_true, if_false, Bool.false_eq_true, reduceCtorEq]); rw [ci_gt]; simpa using hQ) ?_
  by_cases hs : 0 < p.s
  · simp only [hs, decide_true, if_true]
    rw [denSs, denS]
    simp only [den, List.getElem?_cons_zero, List.getElem?_cons_succ]
    refine ⟨a, _, ep, rfl, ha1, ?_⟩
    simp only [den, denP, denI, denO, denEs, List.getElem?_cons_zero, List.getElem?_cons_succ]
    rw [e3]
    refine ix_tup3 ⟨1, rfl, ?_⟩
    simp only [slcR, items1, cut_tail, List.drop_succ_cons, List.drop_zero]
    refine turnsA_inv (fun j acc st' => st' = st1 ∧ acc = eT (((cs.take j).map fun c' => (⟨behindF p.st c', p.s - 1, p.m⟩ : Pl)).foldl insK [])) _ 0 st1 [] ⟨rfl, rfl⟩ ?_ ?_
    · rintro j d' st2 acc k hj ⟨rfl, rfl⟩ hk
      rw [Nat.zero_add] at hk ⊢
      rw [List.getElem?_map, Option.map_eq_some_iff] at hj
      obtain ⟨c', hj, rfl⟩ := hj
      have hc' := hcc c' (List.mem_of_getElem? hj)
      simp only [asg, wipeE, den, denEs, List.getElem?_cons_zero, List.getElem?_cons_succ, List.set_cons_zero, List.set_cons_succ]
      rw [h1]
      refine behind_call h1 hw.inc hw.okS hw.len hp.st hc' ?_
      have ek : (D.tup [eS (behindF p.st c'), .int ((p.s : Int) - 1), .int p.m]) = ePl ⟨behindF p.st c', p.s - 1, p.m⟩ := by
        unfold ePl
        have : ((p.s - 1 : Nat) : Int) = (p.s : Int) - 1 := by omega
        rw [this]
      simp only [opR]
      rw [ek]
      refine ⟨(by decide : 3 ≤ sizeLine), key_pl (hb c' hc'), ?_, ?_⟩
      · rw [eKs_len]
        refine Nat.lt_of_le_of_lt len_insKs ?_
        rw [List.length_map, List.length_take, List.length_nil]
        have : (200 : Nat) < sizeLine := by decide
        omega
      · refine hk _ _ ⟨rfl, ?_⟩
        have e : cs.take (j + 1) = cs.take j ++ [c'] := by rw [List.take_add_one, hj]; rfl
        rw [put_ks ePl_eqv, e, List.map_append, List.foldl_append]
        rfl
    · rintro acc st2 ⟨rfl, rfl⟩
      rw [Nat.zero_add, List.length_map, List.take_length]
      intro ep2
      have hmore : ((cs.map fun c' => (⟨behindF p.st c', p.s - 1, p.m⟩ : Pl)).foldl insK []).length ≤ cs.length := by
        have := len_insKs (ks := cs.map fun c' => (⟨behindF p.st c', p.s - 1, p.m⟩ : Pl)) (l := [])
        simpa using this
      refine ⟨_, _, ep, ha1, rfl, by simp [eKs], ?_, ?_, fun ep3 => ?_⟩
      · rw [List.all_eq_true]
        intro x hx
        obtain ⟨q, hq, rfl⟩ := List.mem_map.mp hx
        rcases mem_insKs.mp hq with z | z
        · cases z
        · obtain ⟨c', h3, rfl⟩ := List.mem_map.mp z
          exact key_pl (hb c' (hcc c' h3))
      · rw [eKs_len, eKs_len]
        have : (200 : Nat) < sizeLine := by decide
        simp only [List.length_singleton]
        omega
      · rw [putAll_ks ePl_eqv, denSs, ← e3]
        refine med a _ ep3 n0 (hx1.bump n0) ?_
        rw [Store.set_same]
        unfold ends0
        rw [hcs]
        simp only [show ¬ p.s = 0 by omega, if_false]
  · simp only [hs, decide_false, Bool.false_eq_true, if_false]
    rw [denSs]
    refine med a _ ep n0 hx1 ?_
    rw [ha1]
    unfold ends0
    rw [hcs]
    simp only [show p.s = 0 by omega, if_true]
end G
/-! The least pairs: what they are; how they are found round by round. -/
namespace G
open PySem
abbrev C2 := Nat × Nat
def cLt (a b : C2) : Bool := lex2 nLt nLt a b
theorem sto_c : STO cLt := sto_n.lex2 sto_n
def cLe (a b : C2) : Prop := cLt b a = false
theorem cLe.refl (a : C2) : cLe a a := sto_c.irr a
theorem cLe.trans {a b c : C2} (h : cLe a b) (k : cLe b c) : cLe a c := by
  have := sto_c.le_tr a b c (by rw [show cLt b a = false from h]; rfl) (by rw [show cLt c b = false from k]; rfl)
  simpa [cLe] using this
theorem cLe.of_lt {a b : C2} (h : cLt a b = true) : cLe a b := sto_c.asym h
theorem cLe.total (a b : C2) : cLe a b ∨ cLt b a = true := by
  unfold cLe
  cases cLt b a <;> simp
theorem cLe.antisymm {a b : C2} (h : cLe a b) (k : cLe b a) : a = b := sto_c.tri a b k h
theorem cLe.lt_of {a b c : C2} (h : cLe a b) (k : cLt b c = true) : cLt a c = true := by
  cases q : cLt a c with
  | true => rfl
  | false =>
    have z : cLe c b := cLe.trans q h
    unfold cLe at z
    rw [k] at z; cases z
def add2 (a b : C2) : C2 := (a.1 + b.1, a.2 + b.2)
theorem cLt_iff {a b : C2} : cLt a b = true ↔ a.1 < b.1 ∨ (a.1 = b.1 ∧ a.2 < b.2) := by
  unfold cLt lex2 nLt
  split <;> rename_i h
  · simp [h]
  · simp [h]
theorem cLe_iff {a b : C2} : cLe a b ↔ a.1 < b.1 ∨ (a.1 = b.1 ∧ a.2 ≤ b.2) := by
  unfold cLe
  rw [← Bool.not_eq_true, cLt_iff]
  omega
theorem add2_mono {a b c : C2} (h : cLe b c) : cLe (add2 a b) (add2 a c) := by
  rw [cLe_iff] at h ⊢
  simp only [add2]
  omega
/-- the greatest, the least one of some -/
def maxC : List C2 → C2
  | [] => (0, 0)
  | c :: cs => cs.foldl (fun m x => if cLt m x = true then x else m) c
def minC : List C2 → C2
  | [] => (0, 0)
  | c :: cs => cs.foldl (fun m x => if cLt x m = true then x else m) c
theorem max_fold : ∀ (cs : List C2) (c : C2), let m := cs.foldl (fun m x => if cLt m x = true then x else m) c; (m = c ∨ m ∈ cs) ∧ cLe c m ∧ ∀ x ∈ cs, cLe x m
  | [], c => ⟨.inl rfl, cLe.refl c, by simp⟩
  | x :: cs, c => by
    simp only [List.foldl_cons]
    have h := max_fold cs (if cLt c x = true then x else c)
    simp only at h
    obtain ⟨h1, h2, h3⟩ := h
    generalize hm : cs.foldl (fun m x => if cLt m x = true then x else m) (if cLt c x = true then x else c) = m at h1 h2 h3 ⊢
    by_cases q : cLt c x = true
    · rw [if_pos q] at h1 h2
      refine ⟨.inr ?_, (cLe.of_lt q).trans h2, fun y hy => ?_⟩
      · rcases h1 with h1 | h1
        · rw [h1]; exact List.mem_cons_self
        · exact List.mem_cons_of_mem _ h1
      · rcases List.mem_cons.mp hy with rfl | hy
        · exact h2
        · exact h3 y hy
    · rw [if_neg q] at h1 h2
      have q' : cLe x c := by unfold cLe; simpa using q
      refine ⟨?_, h2, fun y hy => ?_⟩
      · rcases h1 with h1 | h1
        · exact .inl h1
        · exact .inr (List.mem_cons_of_mem _ h1)
      · rcases List.mem_cons.mp hy with rfl | hy
        · exact q'.trans h2
        · exact h3 y hy
theorem min_fold : ∀ (cs : List C2) (c : C2), let m := cs.foldl (fun m x => if cLt x m = true then x else m) c; (m = c ∨ m ∈ cs) ∧ cLe m c ∧ ∀ x ∈ cs, cLe m x
  | [], c => ⟨.inl rfl, cLe.refl c, by simp⟩
  | x :: cs, c => by
    simp only [List.foldl_cons]
    have h := min_fold cs (if cLt x c = true then x else c)
    simp only at h
    obtain ⟨h1, h2, h3⟩ := h
    generalize hm : cs.foldl (fun m x => if cLt x m = true then x else m) (if cLt x c = true then x else c) = m at h1 h2 h3 ⊢
    by_cases q : cLt x c = true
    · rw [if_pos q] at h1 h2
      refine ⟨.inr ?_, h2.trans (cLe.of_lt q), fun y hy => ?_⟩
      · rcases h1 with h1 | h1
        · rw [h1]; exact List.mem_cons_self
        · exact List.mem_cons_of_mem _ h1
      · rcases List.mem_cons.mp hy with rfl | hy
        · exact h2
        · exact h3 y hy
    · rw [if_neg q] at h1 h2
      have q' : cLe c x := by unfold cLe; simpa using q
      refine ⟨?_, h2, fun y hy => ?_⟩
      · rcases h1 with h1 | h1
        · exact .inl h1
        · exact .inr (List.mem_cons_of_mem _ h1)
      · rcases List.mem_cons.mp hy with rfl | hy
        · exact h2.trans q'
        · exact h3 y hy
theorem max_spec {l : List C2} (h : l ≠ []) : maxC l ∈ l ∧ ∀ x ∈ l, cLe x (maxC l) := by
  cases l with
  | nil => exact (h rfl).elim
  | cons c cs =>
    have := max_fold cs c
    simp only at this
    obtain ⟨h1, h2, h3⟩ := this
    refine ⟨?_, fun x hx => ?_⟩
    · show cs.foldl _ c ∈ _
      rcases h1 with h1 | h1
      · rw [h1]; exact List.mem_cons_self
      · exact List.mem_cons_of_mem _ h1
    · rcases List.mem_cons.mp hx with rfl | hx
      · exact h2
      · exact h3 x hx
theorem min_spec {l : List C2} (h : l ≠ []) : minC l ∈ l ∧ ∀ x ∈ l, cLe (minC l) x := by
  cases l with
  | nil => exact (h rfl).elim
  | cons c cs =>
    have := min_fold cs c
    simp only at this
    obtain ⟨h1, h2, h3⟩ := this
    refine ⟨?_, fun x hx => ?_⟩
    · show cs.foldl _ c ∈ _
      rcases h1 with h1 | h1
      · rw [h1]; exact List.mem_cons_self
      · exact List.mem_cons_of_mem _ h1
    · rcases List.mem_cons.mp hx with rfl | hx
      · exact h2
      · exact h3 x hx

/-! ### what can be reached for a pair -/
section
variable {α : Type} [DecidableEq α]
inductive Win (goal : α → Prop) (steps : α → List (C2 × List α)) : α → C2 → Prop where
  | goal {p : α} {c : C2} : goal p → Win goal steps p c
  | step {p : α} {pr : C2} {qs : List α} {c c' : C2} : (pr, qs) ∈ steps p → (∀ q ∈ qs, Win goal steps q c') → cLe (add2 pr c') c → Win goal steps p c
theorem Win.mono {goal : α → Prop} {steps : α → List (C2 × List α)} {p : α} {c c' : C2} (h : Win goal steps p c) (l : cLe c c') : Win goal steps p c' := by
  cases h with
  | goal g => exact .goal g
  | step a b e => exact .step a b (e.trans l)
/-- the least pair, None where there is none -/
def IsLst (W : C2 → Prop) : Option C2 → Prop
  | none => ∀ c, ¬ W c
  | some c => W c ∧ ∀ c', W c' → cLe c c'
theorem IsLst.uniq {W : C2 → Prop} {o o' : Option C2} (h : IsLst W o) (h' : IsLst W o') : o = o' := by
  cases o with
  | none => cases o' with
    | none => rfl
    | some c => exact (h c h'.1).elim
  | some c => cases o' with
    | none => exact (h' c h.1).elim
    | some c' => rw [(h.2 _ h'.1).antisymm (h'.2 _ h.1)]

/-! ### tables -/
abbrev Tbl (α : Type) := List (α × Option C2)
def val (L : Tbl α) (p : α) : Option C2 := (getA L p).getD none
theorem val_put {L : Tbl α} {p q : α} {x : Option C2} : val (putA L p x) q = if q = p then x else val L q := by
  unfold val; rw [getA_put]; split <;> rfl
def byF (L : Tbl α) (s : C2 × List α) : Option C2 := if s.2.any (fun q => (val L q).isNone) = true then none else some (add2 s.1 (maxC (s.2.map fun q => (val L q).getD (0, 0))))
theorem by_some {L : Tbl α} {s : C2 × List α} {c : C2} (h : byF L s = some c) (ne : s.2 ≠ []) : ∃ m, c = add2 s.1 m ∧ (∃ q ∈ s.2, val L q = some m) ∧ ∀ q ∈ s.2, ∃ x, val L q = some x ∧ cLe x m := by
  unfold byF at h
  split at h
  · cases h
  · rename_i hn
    cases h
    have hs : ∀ q ∈ s.2, ∃ x, val L q = some x := fun q hq => by
      cases z : val L q with
      | some x => exact ⟨x, rfl⟩
      | none => exact (hn (List.any_eq_true.mpr ⟨q, hq, by rw [z]; rfl⟩)).elim
    obtain ⟨h1, h2⟩ := max_spec (l := s.2.map fun q => (val L q).getD (0, 0)) (by simpa using ne)
    refine ⟨_, rfl, ?_, fun q hq => ?_⟩
    · obtain ⟨q, hq, e⟩ := List.mem_map.mp h1
      obtain ⟨x, hx⟩ := hs q hq
      rw [hx] at e
      exact ⟨q, hq, by rw [hx, ← e]; rfl⟩
    · obtain ⟨x, hx⟩ := hs q hq
      exact ⟨x, hx, h2 x (List.mem_map.mpr ⟨q, hq, by rw [hx]; rfl⟩)⟩
theorem by_ex {L : Tbl α} {s : C2 × List α} {m : C2} (ne : s.2 ≠ []) (h : ∀ q ∈ s.2, ∃ x, val L q = some x ∧ cLe x m) : ∃ c, byF L s = some c ∧ cLe c (add2 s.1 m) := by
  have hn : ¬ s.2.any (fun q => (val L q).isNone) = true := fun z => by
    obtain ⟨q, hq, e⟩ := List.any_eq_true.mp z
    obtain ⟨x, hx, _⟩ := h q hq
    rw [hx] at e; cases e
  refine ⟨_, by unfold byF; rw [if_neg hn], add2_mono ?_⟩
  obtain ⟨h1, _⟩ := max_spec (l := s.2.map fun q => (val L q).getD (0, 0)) (by simpa using ne)
  obtain ⟨q, hq, e⟩ := List.mem_map.mp h1
  obtain ⟨x, hx, hl⟩ := h q hq
  rw [← e, hx]
  exact hl
def someF (steps : α → List (C2 × List α)) (L : Tbl α) (p : α) : List C2 := (steps p).filterMap (byF L)
/-- the lesser pair that is found at a place -/
def betF (steps : α → List (C2 × List α)) (L : Tbl α) (p : α) : Option C2 :=
  if someF steps L p = [] then none else match val L p with
    | none => some (minC (someF steps L p))
    | some c => if cLt (minC (someF steps L p)) c = true then some (minC (someF steps L p)) else none
/-- nothing lesser is found here -/
def Stable (steps : α → List (C2 × List α)) (L : Tbl α) (p : α) : Prop := ∀ s ∈ steps p, ∀ c, byF L s = some c → ∃ x, val L p = some x ∧ cLe x c
theorem bet_none {steps : α → List (C2 × List α)} {L : Tbl α} {p : α} (h : betF steps L p = none) : Stable steps L p := by
  intro s hs c hc
  have hm : c ∈ someF steps L p := List.mem_filterMap.mpr ⟨s, hs, hc⟩
  have ne := List.ne_nil_of_mem hm
  unfold betF at h
  rw [if_neg ne] at h
  split at h
  · cases h
  · rename_i x hx
    split at h
    · cases h
    · rename_i hl
      have : cLe x (minC (someF steps L p)) := by unfold cLe; simpa using hl
      exact ⟨x, hx, this.trans ((min_spec ne).2 c hm)⟩
/-- what a lesser pair is -/
structure Bet (steps : α → List (C2 × List α)) (L : Tbl α) (p : α) (c : C2) : Prop where
  from_ : ∃ s ∈ steps p, byF L s = some c
  least : ∀ s ∈ steps p, ∀ c', byF L s = some c' → cLe c c'
  less : val L p = none ∨ ∃ x, val L p = some x ∧ cLt c x = true
theorem bet_some {steps : α → List (C2 × List α)} {L : Tbl α} {p : α} {c : C2} (h : betF steps L p = some c) : Bet steps L p c := by
  unfold betF at h
  split at h
  · cases h
  · rename_i ne
    obtain ⟨m1, m2⟩ := min_spec ne
    have fr : ∃ s ∈ steps p, byF L s = some (minC (someF steps L p)) := by
      obtain ⟨s, hs, e⟩ := List.mem_filterMap.mp m1
      exact ⟨s, hs, e⟩
    have le : ∀ s ∈ steps p, ∀ c', byF L s = some c' → cLe (minC (someF steps L p)) c' := fun s hs c' e => m2 c' (List.mem_filterMap.mpr ⟨s, hs, e⟩)
    split at h
    · rename_i hv
      cases h
      exact ⟨fr, le, .inl hv⟩
    · rename_i x hv
      split at h
      · rename_i hl
        cases h
        exact ⟨fr, le, .inr ⟨x, hv, hl⟩⟩
      · cases h
/-- what is told is true -/
def Sound (goal : α → Prop) (steps : α → List (C2 × List α)) (L : Tbl α) : Prop := ∀ p c, val L p = some c → Win goal steps p c
theorem Sound.put {goal : α → Prop} {steps : α → List (C2 × List α)} {L : Tbl α} {p : α} {c : C2} (ne : ∀ p, ∀ s ∈ steps p, s.2 ≠ []) (h : Sound goal steps L) (b : Bet steps L p c) : Sound goal steps (putA L p (some c)) := by
  intro q x e
  rw [val_put] at e
  split at e
  · rename_i hq
    subst hq
    cases e
    obtain ⟨s, hs, e⟩ := b.from_
    obtain ⟨m, rfl, _, h2⟩ := by_some e (ne _ s hs)
    exact .step hs (fun q hq => let ⟨x, e1, e2⟩ := h2 q hq; (h q x e1).mono e2) (cLe.refl _)
  · exact h q x e
/-- a table that nothing makes lesser tells the least pairs -/
theorem least_of {goal : α → Prop} {steps : α → List (C2 × List α)} {L : Tbl α} (dom : α → Prop) (closed : ∀ p, dom p → ∀ s ∈ steps p, ∀ q ∈ s.2, dom q) (ne : ∀ p, ∀ s ∈ steps p, s.2 ≠ []) (sd : Sound goal steps L) (hg : ∀ p, dom p → goal p → val L p = some (0, 0)) (st : ∀ p, dom p → ¬ goal p → Stable steps L p) :
    ∀ p, dom p → IsLst (Win goal steps p) (val L p) := by
  have key : ∀ p c, Win goal steps p c → dom p → ∃ x, val L p = some x ∧ cLe x c := by
    intro p c h
    induction h with
    | goal g => intro hd; exact ⟨_, hg _ hd g, by rw [cLe_iff]; simp; omega⟩
    | step a b e ih =>
      rename_i p pr qs c c'
      intro hd
      by_cases g : goal p
      · exact ⟨_, hg _ hd g, by rw [cLe_iff]; simp; omega⟩
      · obtain ⟨c0, h1, h2⟩ := by_ex (L := L) (s := (pr, qs)) (m := c') (ne p _ a) fun q hq => ih q hq (closed p hd _ a q hq)
        obtain ⟨x, h3, h4⟩ := st p hd g _ a c0 h1
        exact ⟨x, h3, h4.trans (h2.trans e)⟩
  intro p hd
  cases q : val L p with
  | none => intro c hw; obtain ⟨x, h1, _⟩ := key p c hw hd; rw [q] at h1; cases h1
  | some c =>
    refine ⟨sd p c q, fun c' hw => ?_⟩
    obtain ⟨x, h1, h2⟩ := key p c' hw hd
    rw [q] at h1; cases h1
    exact h2
end
end G
/-! Pairs made lesser till nothing changes. -/
namespace G
open PySem
section
variable {α : Type} [DecidableEq α]
abbrev Stp (α : Type) := α → List (C2 × List α)
def turnS (steps : Stp α) (s : Tbl α × List α) (p : α) : Tbl α × List α :=
  if val s.1 p = some (0, 0) then s else match betF steps s.1 p with
    | some c => (putA s.1 p (some c), s.2 ++ [p])
    | none => s
def stepS (us : α → List α) (steps : Stp α) (s : Tbl α × List α × Nat) : Tbl α × List α × Nat := match s.2.1[s.2.2]? with
  | none => s
  | some q => (((us q).foldl (turnS steps) (s.1, s.2.1)).1, ((us q).foldl (turnS steps) (s.1, s.2.1)).2, s.2.2 + 1)
def runS (us : α → List α) (steps : Stp α) : Nat → Tbl α × List α × Nat → Tbl α × List α × Nat
  | 0, s => s
  | n + 1, s => runS us steps n (stepS us steps s)
def Succ (steps : Stp α) (p q : α) : Prop := ∃ s ∈ steps p, q ∈ s.2
/-- what stands while places of `ps` are still to be looked at -/
structure Mid (dom goal : α → Prop) (ks : List α) (steps : Stp α) (L : Tbl α) (line : List α) (at_ : Nat) (ps : List α) : Prop where
  sound : Sound goal steps L
  nought : ∀ p, dom p → (goal p ↔ val L p = some (0, 0))
  keys : L.map (·.1) = ks
  lineIn : ∀ q ∈ line, dom q
  le : at_ ≤ line.length
  pend : ∀ p, dom p → ¬ goal p → Stable steps L p ∨ (∃ q ∈ line.drop at_, Succ steps p q) ∨ p ∈ ps
theorem by_congr {L L' : Tbl α} {s : C2 × List α} (h : ∀ q ∈ s.2, val L q = val L' q) : byF L s = byF L' s := by
  unfold byF
  have e1 : s.2.any (fun q => (val L q).isNone) = s.2.any (fun q => (val L' q).isNone) := by
    rw [Bool.eq_iff_iff, List.any_eq_true, List.any_eq_true]
    constructor <;> (rintro ⟨q, hq, e⟩; exact ⟨q, hq, by first | rw [← h q hq]; exact e | rw [h q hq]; exact e⟩)
  have e2 : s.2.map (fun q => (val L q).getD (0, 0)) = s.2.map (fun q => (val L' q).getD (0, 0)) := List.map_congr_left fun q hq => by rw [h q hq]
  rw [e1, e2]
theorem Mid.turn {dom goal : α → Prop} {ks : List α} {steps : Stp α} {L : Tbl α} {line : List α} {at_ : Nat} {p : α} {ps : List α} (ne : ∀ p, ∀ s ∈ steps p, s.2 ≠ []) (pos : ∀ p, ∀ s ∈ steps p, 1 ≤ s.1.2) (hdom : ∀ p, dom p ↔ p ∈ ks) (hp : dom p)
    (h : Mid dom goal ks steps L line at_ (p :: ps)) : Mid dom goal ks steps (turnS steps (L, line) p).1 (turnS steps (L, line) p).2 at_ ps := by
  unfold turnS
  split
  · rename_i hz
    simp only at hz
    refine ⟨h.sound, h.nought, h.keys, h.lineIn, h.le, fun q hq hg => ?_⟩
    rcases h.pend q hq hg with z | z | z
    · exact .inl z
    · exact .inr (.inl z)
    · rcases List.mem_cons.mp z with rfl | z
      · exact (hg ((h.nought _ hq).mpr hz)).elim
      · exact .inr (.inr z)
  · rename_i hz
    simp only at hz ⊢
    cases hb : betF steps L p with
    | none =>
      simp only
      refine ⟨h.sound, h.nought, h.keys, h.lineIn, h.le, fun q hq hg => ?_⟩
      rcases h.pend q hq hg with z | z | z
      · exact .inl z
      · exact .inr (.inl z)
      · rcases List.mem_cons.mp z with rfl | z
        · exact .inl (bet_none hb)
        · exact .inr (.inr z)
    | some c =>
      simp only
      have b := bet_some hb
      have hng : ¬ goal p := fun g => hz ((h.nought p hp).mp g)
      refine ⟨h.sound.put ne b, fun q hq => ?_, ?_, fun q hq => ?_, by rw [List.length_append]; have := h.le; omega, fun q hq hg => ?_⟩
      · rw [val_put]
        split
        · rename_i e
          subst e
          refine ⟨fun g => (hng g).elim, fun e => ?_⟩
          obtain ⟨s, hs, e2⟩ := b.from_
          obtain ⟨m, rfl, _⟩ := by_some e2 (ne _ s hs)
          have := pos _ s hs
          have e4 := congrArg Prod.snd (Option.some.inj e)
          simp only [add2] at e4
          omega
        · exact h.nought q hq
      · rw [putA_keys, h.keys, if_pos]
        exact (hdom p).mp hp
      · rcases List.mem_append.mp hq with z | z
        · exact h.lineIn q z
        · rw [List.mem_singleton.mp z]; exact hp
      · by_cases hsu : Succ steps q p
        · refine .inr (.inl ⟨p, ?_, hsu⟩)
          rw [List.drop_append_of_le_length h.le]
          exact List.mem_append_right _ List.mem_cons_self
        · have same : ∀ s ∈ steps q, byF (putA L p (some c)) s = byF L s := fun s hs => by_congr fun r hr => by
            rw [val_put, if_neg]
            intro e
            subst e
            exact hsu ⟨s, hs, hr⟩
          have mono : Stable steps L q → Stable steps (putA L p (some c)) q := fun st s hs c' e => by
            rw [same s hs] at e
            obtain ⟨x, h1, h2⟩ := st s hs c' e
            by_cases e3 : q = p
            · subst e3
              refine ⟨c, by rw [val_put, if_pos rfl], b.least s hs c' e⟩
            · exact ⟨x, by rw [val_put, if_neg e3]; exact h1, h2⟩
          rcases h.pend q hq hg with z | ⟨r, z1, z2⟩ | z
          · exact .inl (mono z)
          · exact .inr (.inl ⟨r, by rw [List.drop_append_of_le_length h.le]; exact List.mem_append_left _ z1, z2⟩)
          · rcases List.mem_cons.mp z with rfl | z
            · refine .inl fun s hs c' e => ?_
              rw [same s hs] at e
              exact ⟨c, by rw [val_put, if_pos rfl], b.least s hs c' e⟩
            · exact .inr (.inr z)
theorem Mid.turns {dom goal : α → Prop} {ks : List α} {steps : Stp α} {at_ : Nat} (ne : ∀ p, ∀ s ∈ steps p, s.2 ≠ []) (pos : ∀ p, ∀ s ∈ steps p, 1 ≤ s.1.2) (hdom : ∀ p, dom p ↔ p ∈ ks) : ∀ (ps : List α) (L : Tbl α) (line : List α), (∀ p ∈ ps, dom p) → Mid dom goal ks steps L line at_ ps →
    Mid dom goal ks steps (ps.foldl (turnS steps) (L, line)).1 (ps.foldl (turnS steps) (L, line)).2 at_ []
  | [], L, line, _, h => h
  | p :: ps, L, line, hp, h => by
    rw [List.foldl_cons]
    exact Mid.turns ne pos hdom ps _ _ (fun q hq => hp q (List.mem_cons_of_mem _ hq)) (h.turn ne pos hdom (hp p List.mem_cons_self))
/-- the users of a place: all from which a step leads to it -/
def Users (dom : α → Prop) (steps : Stp α) (us : α → List α) : Prop := ∀ p q, dom q → (p ∈ us q ↔ dom p ∧ Succ steps p q)
theorem Mid.step {dom goal : α → Prop} {ks : List α} {steps : Stp α} {us : α → List α} {s : Tbl α × List α × Nat} (ne : ∀ p, ∀ s ∈ steps p, s.2 ≠ []) (pos : ∀ p, ∀ s ∈ steps p, 1 ≤ s.1.2) (hdom : ∀ p, dom p ↔ p ∈ ks) (hu : Users dom steps us)
    (h : Mid dom goal ks steps s.1 s.2.1 s.2.2 []) : Mid dom goal ks steps (stepS us steps s).1 (stepS us steps s).2.1 (stepS us steps s).2.2 [] := by
  unfold stepS
  split
  · exact h
  · rename_i q hq
    have hql : s.2.2 < s.2.1.length := (List.getElem?_eq_some_iff.mp hq).1
    have hqd : dom q := h.lineIn q (List.mem_of_getElem? hq)
    refine Mid.turns ne pos hdom (us q) _ _ (fun p hp => ((hu p q hqd).mp hp).1) ⟨h.sound, h.nought, h.keys, h.lineIn, hql, fun p hp hg => ?_⟩
    rcases h.pend p hp hg with z | ⟨r, z1, z2⟩ | z
    · exact .inl z
    · have e : s.2.1.drop s.2.2 = q :: s.2.1.drop (s.2.2 + 1) := by
        rw [List.drop_eq_getElem_cons hql]
        have := List.getElem?_eq_getElem hql
        rw [hq] at this
        cases this
        rfl
      rw [e] at z1
      rcases List.mem_cons.mp z1 with rfl | z1
      · exact .inr (.inr ((hu p _ hqd).mpr ⟨hp, z2⟩))
      · exact .inr (.inl ⟨r, z1, z2⟩)
    · cases z
theorem Mid.run {dom goal : α → Prop} {ks : List α} {steps : Stp α} {us : α → List α} (ne : ∀ p, ∀ s ∈ steps p, s.2 ≠ []) (pos : ∀ p, ∀ s ∈ steps p, 1 ≤ s.1.2) (hdom : ∀ p, dom p ↔ p ∈ ks) (hu : Users dom steps us) : ∀ (n : Nat) (s : Tbl α × List α × Nat),
    Mid dom goal ks steps s.1 s.2.1 s.2.2 [] → Mid dom goal ks steps (runS us steps n s).1 (runS us steps n s).2.1 (runS us steps n s).2.2 []
  | 0, s, h => h
  | n + 1, s, h => Mid.run ne pos hdom hu n _ (h.step ne pos hdom hu)
/-! ### it comes to an end -/
def oLt : Option C2 → Option C2 → Prop
  | some a, some b => cLt a b = true
  | some _, none => True
  | none, _ => False
theorem cLt_wf : WellFounded fun a b : C2 => cLt a b = true := by
  refine Subrelation.wf (r := Prod.Lex (· < ·) (· < ·)) (fun {a b} h => ?_) (Prod.lex ⟨_, Nat.lt_wfRel.wf⟩ ⟨_, Nat.lt_wfRel.wf⟩).wf
  rcases cLt_iff.mp h with h | ⟨h1, h2⟩
  · exact Prod.Lex.left _ _ h
  · obtain ⟨a1, a2⟩ := a; obtain ⟨b1, b2⟩ := b
    simp only at h1 h2
    subst h1
    exact Prod.Lex.right _ h2
theorem oLt_wf : WellFounded oLt := by
  have h1 : ∀ a : C2, Acc oLt (some a) := fun a => by
    induction a using cLt_wf.induction with
    | _ a ih =>
      refine ⟨_, fun b hb => ?_⟩
      cases b with
      | none => exact hb.elim
      | some b => exact ih b hb
  refine ⟨fun a => ?_⟩
  cases a with
  | some a => exact h1 a
  | none =>
    refine ⟨_, fun b hb => ?_⟩
    cases b with
    | none => exact hb.elim
    | some b => exact h1 b
/-- lesser at some of these, nowhere greater -/
def Dec (ks : List α) (L' L : Tbl α) : Prop := (∀ p ∈ ks, val L' p = val L p ∨ oLt (val L' p) (val L p)) ∧ ∃ p ∈ ks, oLt (val L' p) (val L p)
theorem dec_wf : ∀ ks : List α, WellFounded (Dec ks)
  | [] => ⟨fun L => ⟨_, fun L' h => by obtain ⟨_, p, hp, _⟩ := h; cases hp⟩⟩
  | k :: ks => by
    have w := (Prod.lex ⟨_, oLt_wf⟩ ⟨_, dec_wf ks⟩).wf
    refine Subrelation.wf (r := InvImage (Prod.Lex oLt (Dec ks)) fun L => (val L k, L)) (fun {L' L} h => ?_) (InvImage.wf _ w)
    obtain ⟨h1, p, hp, h2⟩ := h
    rcases h1 k List.mem_cons_self with e | e
    · show Prod.Lex oLt (Dec ks) (val L' k, L') (val L k, L)
      rw [e]
      refine Prod.Lex.right _ ⟨fun q hq => h1 q (List.mem_cons_of_mem _ hq), p, ?_, h2⟩
      rcases List.mem_cons.mp hp with z | z
      · subst z
        rw [e] at h2
        cases q : val L p with
        | none => rw [q] at h2; exact h2.elim
        | some a => rw [q] at h2; have h3 : cLt a a = true := h2; rw [sto_c.irr] at h3; cases h3
      · exact z
    · exact Prod.Lex.left _ _ e
theorem oLt_tr {a b c : Option C2} (h : oLt a b) (k : oLt b c) : oLt a c := by
  cases a with
  | none => exact h.elim
  | some a => cases b with
    | none => exact k.elim
    | some b => cases c with
      | none => trivial
      | some c => exact sto_c.tr _ _ _ h k
/-- the same, or lesser -/
def Down (ks : List α) (s' s : Tbl α × List α) : Prop := s' = s ∨ Dec ks s'.1 s.1
theorem Down.trans {ks : List α} {a b c : Tbl α × List α} (h : Down ks a b) (k : Down ks b c) : Down ks a c := by
  rcases h with rfl | h
  · exact k
  · rcases k with rfl | k
    · exact .inr h
    · refine .inr ⟨fun p hp => ?_, ?_⟩
      · rcases h.1 p hp with e | e
        · rw [e]; exact k.1 p hp
        · rcases k.1 p hp with e2 | e2
          · rw [← e2]; exact .inr e
          · exact .inr (oLt_tr e e2)
      · obtain ⟨p, hp, e⟩ := h.2
        refine ⟨p, hp, ?_⟩
        rcases k.1 p hp with e2 | e2
        · rw [← e2]; exact e
        · exact oLt_tr e e2
theorem turn_down {ks : List α} {steps : Stp α} {s : Tbl α × List α} {p : α} (hp : p ∈ ks) : Down ks (turnS steps s p) s := by
  unfold turnS
  split
  · exact .inl rfl
  · cases hb : betF steps s.1 p with
    | none => exact .inl rfl
    | some c =>
      have b := bet_some hb
      have hl : oLt (some c) (val s.1 p) := by
        rcases b.less with z | ⟨x, z, z2⟩
        · rw [z]; trivial
        · rw [z]; exact z2
      refine .inr ⟨fun q _ => ?_, p, hp, by rw [val_put, if_pos rfl]; exact hl⟩
      rw [val_put]
      split
      · rename_i e; subst e; exact .inr hl
      · exact .inl rfl
theorem turns_down {ks : List α} {steps : Stp α} : ∀ (ps : List α) (s : Tbl α × List α), (∀ p ∈ ps, p ∈ ks) → Down ks (ps.foldl (turnS steps) s) s
  | [], s, _ => .inl rfl
  | p :: ps, s, h => by
    rw [List.foldl_cons]
    exact (turns_down ps _ fun q hq => h q (List.mem_cons_of_mem _ hq)).trans (turn_down (h p List.mem_cons_self))
theorem run_ends {dom goal : α → Prop} {ks : List α} {steps : Stp α} {us : α → List α} (ne : ∀ p, ∀ s ∈ steps p, s.2 ≠ []) (pos : ∀ p, ∀ s ∈ steps p, 1 ≤ s.1.2) (hdom : ∀ p, dom p ↔ p ∈ ks) (hu : Users dom steps us) (s : Tbl α × List α × Nat) (h : Mid dom goal ks steps s.1 s.2.1 s.2.2 []) :
    ∃ n, (runS us steps n s).2.1.length ≤ (runS us steps n s).2.2 := by
  have w : WellFounded (InvImage (Prod.Lex (Dec ks) (· < ·)) fun s : Tbl α × List α × Nat => (s.1, s.2.1.length - s.2.2)) := InvImage.wf _ (Prod.lex ⟨_, dec_wf ks⟩ ⟨_, Nat.lt_wfRel.wf⟩).wf
  induction s using w.induction with
  | _ s ih =>
    by_cases hlt : s.2.2 < s.2.1.length
    · obtain ⟨q, hq⟩ : ∃ q, s.2.1[s.2.2]? = some q := ⟨_, List.getElem?_eq_getElem hlt⟩
      have hs := h.step ne pos hdom hu
      have dec : InvImage (Prod.Lex (Dec ks) (· < ·)) (fun s : Tbl α × List α × Nat => (s.1, s.2.1.length - s.2.2)) (stepS us steps s) s := by
        have hqd : dom q := h.lineIn q (List.mem_of_getElem? hq)
        have hd := turns_down (ks := ks) (steps := steps) (us q) (s.1, s.2.1) fun p hp => (hdom p).mp ((hu p q hqd).mp hp).1
        have e : stepS us steps s = (((us q).foldl (turnS steps) (s.1, s.2.1)).1, ((us q).foldl (turnS steps) (s.1, s.2.1)).2, s.2.2 + 1) := by
          unfold stepS; rw [hq]
        show Prod.Lex _ _ _ _
        rw [e]
        rcases hd with z | z
        · rw [z]
          exact Prod.Lex.right _ (by show s.2.1.length - (s.2.2 + 1) < s.2.1.length - s.2.2; omega)
        · exact Prod.Lex.left _ _ z
      obtain ⟨n, hn⟩ := ih _ dec hs
      exact ⟨n + 1, hn⟩
    · exact ⟨0, Nat.le_of_not_lt hlt⟩
/-- the end: the least pairs -/
theorem Mid.least {dom goal : α → Prop} {ks : List α} {steps : Stp α} {L : Tbl α} {line : List α} {at_ : Nat} (ne : ∀ p, ∀ s ∈ steps p, s.2 ≠ []) (closed : ∀ p, dom p → ∀ s ∈ steps p, ∀ q ∈ s.2, dom q) (h : Mid dom goal ks steps L line at_ []) (e : line.length ≤ at_) :
    ∀ p, dom p → IsLst (Win goal steps p) (val L p) :=
  least_of dom closed ne h.sound (fun p hp g => (h.nought p hp).mp g) fun p hp g => by
    rcases h.pend p hp g with z | ⟨r, z1, _⟩ | z
    · exact z
    · rw [List.drop_of_length_le e] at z1; cases z1
    · cases z
/-- the start -/
theorem Mid.start {dom goal : α → Prop} {ks : List α} {steps : Stp α} {L : Tbl α} {line : List α} (ne : ∀ p, ∀ s ∈ steps p, s.2 ≠ []) (closed : ∀ p, dom p → ∀ s ∈ steps p, ∀ q ∈ s.2, dom q) (hk : L.map (·.1) = ks)
    (h1 : ∀ p, dom p → goal p → val L p = some (0, 0)) (h2 : ∀ p, ¬ (dom p ∧ goal p) → val L p = none) (hl : ∀ p, p ∈ line ↔ dom p ∧ goal p) : Mid dom goal ks steps L line 0 [] := by
  refine ⟨fun p c e => ?_, fun p hp => ⟨h1 p hp, fun e => ?_⟩, hk, fun q hq => ((hl q).mp hq).1, Nat.zero_le _, fun p hp hg => ?_⟩
  · by_cases g : dom p ∧ goal p
    · exact .goal g.2
    · rw [h2 p g] at e; cases e
  · by_cases g : goal p
    · exact g
    · rw [h2 p fun z => g z.2] at e; cases e
  · by_cases z : ∃ s ∈ steps p, ∃ c, byF L s = some c
    · obtain ⟨s, hs, c, e⟩ := z
      obtain ⟨m, _, ⟨q, hq, e1⟩, _⟩ := by_some e (ne p s hs)
      refine .inr (.inl ⟨q, ?_, s, hs, hq⟩)
      rw [List.drop_zero, hl]
      refine ⟨closed p hp s hs q hq, ?_⟩
      by_cases g : goal q
      · exact g
      · rw [h2 q fun z => g z.2] at e1; cases e1
    · exact .inl fun s hs c e => (z ⟨s, hs, c, e⟩).elim
end
end G
/-! How long the line may grow. -/
namespace G
open PySem
section
variable {α : Type} [DecidableEq α]
/-- one summand changed -/
theorem sum_change {f f' : α → Nat} {p : α} : ∀ {ks : List α}, ks.Nodup → p ∈ ks → (∀ q, q ≠ p → f' q = f q) → (ks.map f').sum + f p = (ks.map f).sum + f' p
  | [], _, h, _ => by cases h
  | k :: ks, n, h, e => by
    rw [List.nodup_cons] at n
    simp only [List.map_cons, List.sum_cons]
    by_cases hk : k = p
    · subst hk
      have : ks.map f' = ks.map f := List.map_congr_left fun q hq => e q fun z => n.1 (z ▸ hq)
      rw [this]; omega
    · have hp : p ∈ ks := (List.mem_cons.mp h).resolve_left fun z => hk z.symm
      have := sum_change n.2 hp e
      rw [e k hk]; omega
theorem sum_le {f : α → Nat} : ∀ {ks : List α}, (∀ q, f q ≤ 1) → (ks.map f).sum ≤ ks.length
  | [], _ => by simp
  | k :: ks, h => by
    simp only [List.map_cons, List.sum_cons, List.length_cons]
    have := h k; have := sum_le (ks := ks) h; omega
/-- a list of unlike things, each of which counts, is no longer than the count -/
theorem len_le_sum {f : α → Nat} {X ks : List α} (n : X.Nodup) (h : ∀ x ∈ X, x ∈ ks ∧ 1 ≤ f x) : X.length ≤ (ks.map f).sum := by
  have h1 : X.length ≤ (ks.filter fun x => decide (1 ≤ f x)).length := List.Nodup.length_le_of_subset n fun x hx => List.mem_filter.mpr ⟨(h x hx).1, by simpa using (h x hx).2⟩
  refine Nat.le_trans h1 ?_
  clear h h1 n
  induction ks with
  | nil => simp
  | cons k ks ih =>
    rw [List.filter_cons, List.map_cons, List.sum_cons]
    split
    · rename_i z
      simp only [decide_eq_true_eq] at z
      rw [List.length_cons]; omega
    · omega
def tri (C : Nat) : Nat → Nat
  | 0 => 0
  | v + 1 => tri C v + C * (v + 1) + 1
theorem tri_mono {C : Nat} : ∀ {v w : Nat}, v ≤ w → tri C v ≤ tri C w
  | v, 0, h => by have : v = 0 := by omega
                  subst this; exact Nat.le_refl _
  | v, w + 1, h => by
    by_cases e : v = w + 1
    · subst e; exact Nat.le_refl _
    · have := tri_mono (C := C) (v := v) (w := w) (by omega)
      show _ ≤ tri C w + C * (w + 1) + 1
      omega
def wgt (g : α → Bool) (L : Tbl α) (p : α) : Nat := if g p = true then 0 else ((val L p).getD (0, 0)).2
def cnt (g : α → Bool) (L : Tbl α) (p : α) : Nat := if g p = true then 0 else if (val L p).isSome = true then 1 else 0
/-- no line is longer than this tells -/
structure Slim (g : α → Bool) (ks : List α) (C n0 : Nat) (L : Tbl α) (line : List α) : Prop where
  zero : ∀ p c, val L p = some c → c.1 = 0
  nought : ∀ p, g p = true → p ∈ ks → val L p = some (0, 0)
  gap : ∀ p c, p ∈ ks → g p = false → val L p = some c → ∃ X : List α, X.Nodup ∧ (∀ x ∈ X, x ∈ ks ∧ g x = false ∧ ∃ y, val L x = some y ∧ cLe y c) ∧ c.2 ≤ C * X.length
  pot : line.length + (ks.map (wgt g L)).sum ≤ n0 + tri C ((ks.map (cnt g L)).sum)
theorem Slim.len {g : α → Bool} {ks : List α} {C n0 : Nat} {L : Tbl α} {line : List α} (h : Slim g ks C n0 L line) : line.length ≤ n0 + tri C ks.length := by
  have h1 := h.pot
  have h2 : (ks.map (cnt g L)).sum ≤ ks.length := sum_le fun q => by unfold cnt; split <;> (try split) <;> omega
  have h3 := tri_mono (C := C) h2
  omega
theorem Slim.turn {g : α → Bool} {ks : List α} {C n0 : Nat} {steps : Stp α} {L : Tbl α} {line : List α} {p : α} (nd : ks.Nodup) (ne : ∀ p, ∀ s ∈ steps p, s.2 ≠ []) (pos : ∀ p, ∀ s ∈ steps p, 1 ≤ s.1.2 ∧ s.1.2 ≤ C ∧ s.1.1 = 0) (closed : ∀ p ∈ ks, ∀ s ∈ steps p, ∀ q ∈ s.2, q ∈ ks) (hp : p ∈ ks)
    (h : Slim g ks C n0 L line) : Slim g ks C n0 (turnS steps (L, line) p).1 (turnS steps (L, line) p).2 := by
  unfold turnS
  split
  · exact h
  · rename_i hz
    simp only at hz ⊢
    cases hb : betF steps L p with
    | none => exact h
    | some c =>
      simp only
      have b := bet_some hb
      have hg : g p = false := by
        cases q : g p with
        | false => rfl
        | true => exact (hz (h.nought p q hp)).elim
      obtain ⟨s, hs, e⟩ := b.from_
      obtain ⟨m, rfl, ⟨q, hq, hqv⟩, _⟩ := by_some e (ne p s hs)
      obtain ⟨p1, p2, p3⟩ := pos p s hs
      have hm0 := h.zero q m hqv
      have hmc : cLt m (add2 s.1 m) = true := by rw [cLt_iff]; simp only [add2]; omega
      have hqk := closed p hp s hs q hq
      -- the new chain
      have newX : ∃ X : List α, X.Nodup ∧ (∀ x ∈ X, x ∈ ks ∧ g x = false ∧ ∃ y, val (putA L p (some (add2 s.1 m))) x = some y ∧ cLe y (add2 s.1 m)) ∧ (add2 s.1 m).2 ≤ C * X.length := by
        have vp : val (putA L p (some (add2 s.1 m))) p = some (add2 s.1 m) := by rw [val_put, if_pos rfl]
        cases gq : g q with
        | true =>
          have := h.nought q gq hqk
          rw [hqv] at this
          cases this
          refine ⟨[p], by simp, fun x hx => ?_, ?_⟩
          · rw [List.mem_singleton] at hx
            subst hx
            exact ⟨hp, hg, _, vp, cLe.refl _⟩
          · simp only [add2, List.length_singleton]; omega
        | false =>
          obtain ⟨X, x1, x2, x3⟩ := h.gap q m hqk gq hqv
          have hn : p ∉ X := fun hx => by
            obtain ⟨_, _, y, y1, y2⟩ := x2 p hx
            rcases b.less with z | ⟨x, z1, z2⟩
            · rw [z] at y1; cases y1
            · rw [z1] at y1; cases y1
              have w := y2.lt_of hmc
              rw [sto_c.asym z2] at w; cases w
          refine ⟨p :: X, List.nodup_cons.mpr ⟨hn, x1⟩, fun x hx => ?_, ?_⟩
          · rcases List.mem_cons.mp hx with rfl | hx
            · exact ⟨hp, hg, _, vp, cLe.refl _⟩
            · obtain ⟨a1, a2, y, a3, a4⟩ := x2 x hx
              refine ⟨a1, a2, y, ?_, a4.trans (cLe.of_lt hmc)⟩
              rw [val_put, if_neg (fun z : x = p => hn (by rw [← z]; exact hx))]
              exact a3
          · rw [List.length_cons, Nat.mul_succ]
            simp only [add2]
            omega
      generalize hc : add2 s.1 m = c at *
      have hc0 : c.1 = 0 := by rw [← hc]; simp only [add2]; omega
      have hw : ∀ r, r ≠ p → wgt g (putA L p (some c)) r = wgt g L r := fun r hr => by unfold wgt; rw [val_put, if_neg hr]
      have hcn : ∀ r, r ≠ p → cnt g (putA L p (some c)) r = cnt g L r := fun r hr => by unfold cnt; rw [val_put, if_neg hr]
      have sw := sum_change nd hp hw
      have sc := sum_change nd hp hcn
      have wp : wgt g (putA L p (some c)) p = c.2 := by unfold wgt; rw [hg, val_put, if_pos rfl]; rfl
      have cp : cnt g (putA L p (some c)) p = 1 := by unfold cnt; rw [hg, val_put, if_pos rfl]; rfl
      rw [wp] at sw
      rw [cp] at sc
      refine ⟨fun r x e => ?_, fun r hr hk => ?_, fun r x hk hr e => ?_, ?_⟩
      · rw [val_put] at e
        split at e
        · cases e; exact hc0
        · exact h.zero r x e
      · rw [val_put, if_neg]
        · exact h.nought r hr hk
        · intro z; rw [z, hg] at hr; cases hr
      · rw [val_put] at e
        split at e
        · rename_i z
          subst z
          cases e
          exact newX
        · obtain ⟨X, x1, x2, x3⟩ := h.gap r x hk hr e
          refine ⟨X, x1, fun y hy => ?_, x3⟩
          obtain ⟨a1, a2, v, a3, a4⟩ := x2 y hy
          refine ⟨a1, a2, ?_⟩
          by_cases z : y = p
          · subst z
            rcases b.less with w | ⟨w, w1, w2⟩
            · rw [w] at a3; cases a3
            · rw [w1] at a3; cases a3
              exact ⟨c, by rw [val_put, if_pos rfl], (cLe.of_lt w2).trans a4⟩
          · exact ⟨v, by rw [val_put, if_neg z]; exact a3, a4⟩
      · have pot := h.pot
        rw [List.length_append, List.length_singleton]
        rcases b.less with w | ⟨w, w1, w2⟩
        · have w0 : wgt g L p = 0 := by unfold wgt; rw [w]; split <;> rfl
          have c0 : cnt g L p = 0 := by unfold cnt; rw [w]; simp
          rw [w0] at sw
          rw [c0] at sc
          obtain ⟨X, x1, x2, x3⟩ := newX
          have xl : X.length ≤ (ks.map (cnt g (putA L p (some c)))).sum := len_le_sum x1 fun x hx => by
            obtain ⟨a1, a2, y, a3, _⟩ := x2 x hx
            refine ⟨a1, ?_⟩
            unfold cnt
            rw [a2, a3]
            simp
          generalize (ks.map (cnt g (putA L p (some c)))).sum = v' at *
          generalize (ks.map (cnt g L)).sum = v at *
          have ev : v' = v + 1 := by omega
          subst ev
          have xm := Nat.mul_le_mul_left C xl
          show _ ≤ n0 + (tri C v + C * (v + 1) + 1)
          omega
        · have wl : wgt g L p = w.2 := by unfold wgt; rw [hg, w1]; rfl
          have cl : cnt g L p = 1 := by unfold cnt; rw [hg, w1]; rfl
          rw [wl] at sw
          rw [cl] at sc
          have w0 := h.zero p w w1
          have lt : c.2 < w.2 := by rw [cLt_iff] at w2; omega
          have ev : (ks.map (cnt g (putA L p (some c)))).sum = (ks.map (cnt g L)).sum := by omega
          rw [ev]
          omega
end
end G
/-! The class Best. -/
namespace G
open PySem PySem.Spec PyProof.Rows L2
def b_Best___init___1 : Ss := (.cons (.sto (.att (.var 0) "least") (.var 6) (.ite (.call "holds" (.cons (.var 2) (.cons (.idx (.var 6) (.int 0)) .nil))) (.glo "NOUGHT") .non)) (.cons (.sto (.att (.var 0) "steps") (.var 6) (.mcl "Best" "steps_of" (.var 0) (.cons (.var 6) .nil))) .nil))
def b_Best___init__ : Ss := (.cons (.fld (.var 0) "world" (.var 1)) (.cons (.fld (.var 0) "goal" (.var 2)) (.cons (.fld (.var 0) "elder" (.var 5)) (.cons (.fld (.var 0) "steps" (.bx .dct0)) (.cons (.fld (.var 0) "least" (.bx .dct0)) (.cons (.for (.var 6) (.of (.call "places" (.cons (.var 1) (.cons (.var 3) (.cons (.var 4) .nil))))) b_Best___init___1) (.cons (.exp (.mcl "Best" "settle" (.var 0) .nil)) .nil)))))))
def b_Best_steps_of_1 : Ss := (.cons (.ife (.call "holds" (.cons (.idx (.var 3) (.int 2)) (.cons (.idx (.var 1) (.int 0)) .nil))) (.cons (.asg (.var 4) (.ite (.cmp .Is (.att (.var 0) "elder") .non) (.int 0) (.bi .int (.cmp .NotEq (.getd (.att (.var 0) "elder") (.var 1) (.str "")) (.idx (.var 3) (.int 0)))))) (.cons (.exp (.app (.var 2) (.tup (.cons (.idx (.var 3) (.int 0)) (.cons (.tup (.cons (.var 4) (.cons (.idx (.var 3) (.int 1)) .nil))) (.cons (.call "leads_of" (.cons (.att (.var 0) "world") (.cons (.var 1) (.cons (.var 3) .nil)))) .nil)))))) .nil)) .nil) .nil)
def b_Best_steps_of : Ss := (.cons (.asg (.var 2) (.bx (.disp .nil))) (.cons (.for (.var 3) (.of (.idx (.att (.var 0) "world") (.int 1))) b_Best_steps_of_1) (.cons (.ret (.frz (.var 2))) .nil)))
def b_Best_by : Ss := (.cons (.asg (.tup (.cons (.var 4) (.cons (.var 5) (.cons (.var 6) .nil)))) (.var 1)) (.cons (.asg (.var 2) (.fr (.comp [7] (.var 7) (.of (.var 6)) (.idx (.att (.var 0) "least") (.var 7))))) (.cons (.ife (.cmp .In .non (.var 2)) (.cons (.ret .non) .nil) .nil) (.cons (.asg (.var 3) (.bi .max (.var 2))) (.cons (.ret (.tup (.cons (.bin .Add (.idx (.var 5) (.int 0)) (.idx (.var 3) (.int 0))) (.cons (.bin .Add (.idx (.var 5) (.int 1)) (.idx (.var 3) (.int 1))) .nil)))) .nil)))))
def b_Best_is_better : Ss := (.cons (.asg (.var 2) (.fr (.compif [3] (.var 3) (.of (.fr (.comp [4] (.var 4) (.of (.idx (.att (.var 0) "steps") (.var 1))) (.mcl "Best" "by" (.var 0) (.cons (.var 4) .nil))))) (.cmp .IsNot (.var 3) .non) (.var 3)))) (.cons (.ife (.bop false (.cons (.cmp .Eq (.var 2) (.fr (.disp .nil))) (.cons (.bop true (.cons (.cmp .IsNot (.idx (.att (.var 0) "least") (.var 1)) .non) (.cons (.cmp .GtE (.bi .min (.var 2)) (.idx (.att (.var 0) "least") (.var 1))) .nil))) .nil))) (.cons (.ret (.bl false)) .nil) .nil) (.cons (.sto (.att (.var 0) "least") (.var 1) (.bi .min (.var 2))) (.cons (.ret (.bl true)) .nil))))
def b_Best_settle_1 : Ss := (.cons (.sto (.setd (.var 1) (.var 4) (.bx .dct0)) (.var 2) (.bl true)) .nil)
def b_Best_settle_2 : Ss := (.cons (.for (.var 4) (.of (.fr (.comp2 [7, 8] (.var 7) (.of (.var 3)) (.bl true) [8] (.var 8) (.of (.idx (.var 7) (.int 2))) (.bl true) (.var 8)))) b_Best_settle_1) .nil)
def b_Best_settle_3 : Ss := (.cons (.ife (.bop true (.cons (.cmp .NotEq (.idx (.att (.var 0) "least") (.var 2)) (.glo "NOUGHT")) (.cons (.mcl "Best" "is_better" (.var 0) (.cons (.var 2) .nil)) .nil))) (.cons (.exp (.app (.var 5) (.var 2))) .nil) .nil) .nil)
def b_Best_settle_4 : Ss := (.cons (.for (.var 2) (.keys (.getd (.var 1) (.idx (.var 5) (.var 6)) (.fr .dct0))) b_Best_settle_3) (.cons (.aug 6 .Add (.int 1)) .nil))
def b_Best_settle : Ss := (.cons (.asg (.var 1) (.bx .dct0)) (.cons (.for (.tup (.cons (.var 2) (.cons (.var 3) .nil))) (.items (.att (.var 0) "steps")) b_Best_settle_2) (.cons (.par [5, 6] (.cons (.bx (.compif [2] (.var 2) (.keys (.att (.var 0) "least")) (.cmp .Eq (.idx (.att (.var 0) "least") (.var 2)) (.glo "NOUGHT")) (.var 2))) (.cons (.int 0) .nil))) (.cons (.gfz 1) (.cons (.whl (.cmp .Lt (.var 6) (.bi .len (.var 5))) b_Best_settle_4) .nil)))))
def b_Best_name_at : Ss := (.cons (.ife (.bop false (.cons (.cmp .Is (.idx (.att (.var 0) "least") (.var 1)) .non) (.cons (.cmp .Eq (.idx (.att (.var 0) "least") (.var 1)) (.glo "NOUGHT")) .nil))) (.cons (.ret .non) .nil) .nil) (.cons (.ret (.idx (.fr (.compif [2] (.var 2) (.of (.idx (.att (.var 0) "steps") (.var 1))) (.cmp .Eq (.mcl "Best" "by" (.var 0) (.cons (.var 2) .nil)) (.idx (.att (.var 0) "least") (.var 1))) (.idx (.var 2) (.int 0)))) (.int 0))) .nil))
def b_Best_plan_1 : Ss := (.cons (.asg (.var 4) (.pop (.var 3))) (.cons (.asg (.var 5) (.mcl "Best" "name_at" (.var 0) (.cons (.var 4) .nil))) (.cons (.ife (.bop true (.cons (.cmp .IsNot (.var 5) .non) (.cons (.cmp .NotIn (.var 4) (.var 2)) .nil))) (.cons (.sto (.var 2) (.var 4) (.var 5)) (.cons (.asg (.var 3) (.bx (.cat (.var 3) (.fr (.comp2 [6, 7] (.var 6) (.of (.idx (.att (.var 0) "steps") (.var 4))) (.cmp .Eq (.idx (.var 6) (.int 0)) (.var 5)) [7] (.var 7) (.of (.idx (.var 6) (.int 2))) (.bl true) (.var 7)))))) .nil)) .nil) .nil)))
def b_Best_plan : Ss := (.cons (.par [2, 3] (.cons (.bx .dct0) (.cons (.bx (.list (.var 1))) .nil))) (.cons (.whl (.cmp .NotEq (.var 3) (.fr (.disp .nil))) b_Best_plan_1) (.cons (.ret (.bi .tuple (.fr (.sortedI (.var 2))))) .nil)))
def b_best_from : Ss := (.cons (.ret (.new "Best" (.cons (.var 0) (.cons (.var 1) (.cons (.idx (.var 2) (.int 1)) (.cons (.idx (.var 2) (.int 2)) (.cons .non .nil))))))) .nil)
def b_least : Ss := (.cons (.asg (.var 3) (.idx (.att (.call "best_from" (.cons (.var 0) (.cons (.var 1) (.cons (.var 2) .nil)))) "least") (.var 2))) (.cons (.ret (.ite (.cmp .Is (.var 3) .non) .non (.idx (.var 3) (.int 1)))) .nil))
variable {Γ : Ctx}
/-! ### pairs as values -/
def eC2 (c : C2) : D := .tup [.int c.1, .int c.2]
def eO : Option C2 → D
  | none => .non
  | some c => eC2 c
theorem eC2_lt (a b : C2) : (eC2 a).lt (eC2 b) = cLt a b := by
  obtain ⟨a1, a2⟩ := a
  obtain ⟨b1, b2⟩ := b
  simp only [eC2, D.lt, D.lts, nat_eqv, cLt, lex2, nLt]
  by_cases h1 : a1 = b1 <;> by_cases h2 : a2 = b2 <;> simp [h1, h2] <;> omega
theorem eC2_lts (a b : C2) : D.lts [.int a.1, .int a.2] [.int b.1, .int b.2] = cLt a b := eC2_lt a b
theorem eC2_eqv (a b : C2) : (eC2 a).eqv (eC2 b) = decide (a = b) := by
  obtain ⟨a1, a2⟩ := a
  obtain ⟨b1, b2⟩ := b
  simp only [eC2, D.eqv, D.eqvs, nat_eqv, Bool.and_true]
  by_cases h1 : a1 = b1 <;> by_cases h2 : a2 = b2 <;> simp [h1, h2] <;> omega
theorem eO_eqv (a b : Option C2) : (eO a).eqv (eO b) = decide (a = b) := by
  cases a <;> cases b <;> simp [eO, D.eqv, eC2_eqv] <;> simp [eC2, D.eqv]
theorem eC2_dat {c : C2} {n : Nat} : (eC2 c).dat (n + 1) = true := by unfold eC2; simp only [D.dat, D.dats, Bool.and_true]
theorem eO_dat {o : Option C2} {n : Nat} : (eO o).dat (n + 1) = true := by
  cases o with
  | none => unfold eO D.dat; rfl
  | some c => exact eC2_dat
theorem eC2_dats {l : List C2} {n : Nat} : D.dats (n + 1) (l.map eC2) = true := dats_iff.mpr fun x hx => by
  obtain ⟨c, _, rfl⟩ := List.mem_map.mp hx
  exact eC2_dat
theorem eC2_alike (a b : C2) : (eC2 a).alike (eC2 b) = true := rfl
theorem all_alike_c (l : List C2) : allAlike (l.map eC2) := fun x hx y hy => by
  obtain ⟨a, _, rfl⟩ := List.mem_map.mp hx
  obtain ⟨b, _, rfl⟩ := List.mem_map.mp hy
  rfl
theorem maxL_c {l : List C2} (h : l ≠ []) : maxL (l.map eC2) = some (eC2 (maxC l)) := by
  cases l with
  | nil => exact (h rfl).elim
  | cons c cs =>
    show some ((cs.map eC2).foldl (fun m x => if m.lt x then x else m) (eC2 c)) = some (eC2 (cs.foldl (fun m x => if cLt m x = true then x else m) c))
    clear h
    congr 1
    induction cs generalizing c with
    | nil => rfl
    | cons x cs ih =>
      rw [List.map_cons, List.foldl_cons, List.foldl_cons, eC2_lt]
      cases q : cLt c x with
      | true => exact ih x
      | false => exact ih c
theorem minL_c {l : List C2} (h : l ≠ []) : minL (l.map eC2) = some (eC2 (minC l)) := by
  cases l with
  | nil => exact (h rfl).elim
  | cons c cs =>
    show some ((cs.map eC2).foldl (fun m x => if x.lt m then x else m) (eC2 c)) = some (eC2 (cs.foldl (fun m x => if cLt x m = true then x else m) c))
    clear h
    congr 1
    induction cs generalizing c with
    | nil => rfl
    | cons x cs ih =>
      rw [List.map_cons, List.foldl_cons, List.foldl_cons, eC2_lt]
      cases q : cLt x c with
      | true => exact ih x
      | false => exact ih c
/-! ### an instance -/
/-- a step: a deed's name, its pair, the places to which it leads -/
abbrev St3 := Str × C2 × List Pl
def eSt (s : St3) : D := .tup [.str s.1, eC2 s.2.1, .lst (s.2.2.map ePl)]
def eSts (l : List St3) : D := .lst (l.map eSt)
def eEl : Option (List (Pl × Str)) → D
  | none => .non
  | some l => .dct (eKV ePl D.str l)
/-- its fields -/
def bestFs (w : Wr) (g : Pr) (el : Option (List (Pl × Str))) (sa la : Addr) : List (Str × D) := [("world", eW w), ("goal", eP g), ("elder", eEl el), ("steps", .loc sa), ("least", .loc la)]
structure BestO (st : Store) (a sa la : Addr) (w : Wr) (g : Pr) (el : Option (List (Pl × Str))) (S : List (Pl × List St3)) (L : Tbl Pl) : Prop where
  at_ : st a = some (.ins "Best" (bestFs w g el sa la))
  steps : ∃ ep, st sa = some (.dct (eKV ePl eSts S) ep)
  least : ∃ ep, st la = some (.dct (eKV ePl eO L) ep)
  ne : sa ≠ la
theorem BestO.ins {st : Store} {a sa la : Addr} {w : Wr} {g : Pr} {el : Option (List (Pl × Str))} {S : List (Pl × List St3)} {L : Tbl Pl} (b : BestO st a sa la w g el S L) : insOf st (.loc a) = some (("Best" : Str), bestFs w g el sa la) := by
  show (match st a with | some (.ins c fs) => some (c, fs) | _ => none) = _
  rw [b.at_]
theorem BestO.set {st : Store} {a sa la : Addr} {w : Wr} {g : Pr} {el : Option (List (Pl × Str))} {S : List (Pl × List St3)} {L L' : Tbl Pl} (b : BestO st a sa la w g el S L) (ep : Nat) : BestO (st.set la (.dct (eKV ePl eO L') ep)) a sa la w g el S L' := by
  obtain ⟨e1, h1⟩ := b.steps
  obtain ⟨e2, h2⟩ := b.least
  exact ⟨by rw [set_ne (fun z => by rw [← z, b.at_] at h2; cases h2)]; exact b.at_, ⟨e1, by rw [set_ne b.ne]; exact h1⟩, ⟨ep, Store.set_same⟩, b.ne⟩
theorem BestO.ext {st st' : Store} {a sa la : Addr} {w : Wr} {g : Pr} {el : Option (List (Pl × Str))} {S : List (Pl × List St3)} {L : Tbl Pl} (b : BestO st a sa la w g el S L) (h : Ext st st') : BestO st' a sa la w g el S L :=
  ⟨h _ _ b.at_, let ⟨e, k⟩ := b.steps; ⟨e, h _ _ k⟩, let ⟨e, k⟩ := b.least; ⟨e, h _ _ k⟩, b.ne⟩
/-- the fields of this class that a program reads, writes -/
def bestF : List Str := ["world", "goal", "elder", "steps", "least"]
theorem att_ev {ρ : Env} {st : Store} {Q : Post} {o : E} {x d : D} {c f : Str} {fs : List (Str × D)} (ho : ∀ R : Post, R x st → den Γ X0 o ρ st R) (hi : insOf st x = some (c, fs)) (hc : Γ.cf c f = true) (hl : fs.lookup f = some d) (q : Q d st) : den Γ X0 (.att o f) ρ st Q := by
  rw [den]
  exact ho _ ⟨c, fs, d, hi, hc, hl, q⟩
/-- what stands at a key -/
theorem idx_e {κ α : Type} [DecidableEq κ] {e : κ → D} {f : α → D} (he : ∀ a b, (e a).eqv (e b) = decide (a = b)) {st : Store} {a : Addr} {l : List (κ × α)} {ep : Nat} {k : κ} {x : α} {Q : D → Prop} (h : st a = some (.dct (eKV e f l) ep)) (hk : isKey (e k) = true) (hx : getA l k = some x) (q : Q (f x)) : idxR st (.loc a) (e k) Q :=
  .inr ⟨_, f x, dct_loc h, hk, by rw [look_e he, hx]; rfl, q⟩
/-- the values of a table at its keys -/
theorem getA_val {α : Type} [DecidableEq α] {L : Tbl α} {p : α} (h : p ∈ L.map (·.1)) : getA L p = some (val L p) := by
  obtain ⟨x, hx⟩ := getA_mem h
  unfold val
  rw [hx]; rfl
def OkP (p : Pl) : Prop := OkS p.st
def vof (L : Tbl Pl) (d : D) : D := match d with
  | .tup [.tup s, .int a, .int b] => eO (val L ⟨s.map sof, a.toNat, b.toNat⟩)
  | _ => .non
theorem vof_pl (L : Tbl Pl) (p : Pl) : vof L (ePl p) = eO (val L p) := by
  obtain ⟨s, a, b⟩ := p
  have : (s.map D.str).map sof = s := by rw [List.map_map]; exact List.map_id'' (fun _ => rfl) s
  simp only [ePl, eS, vof, this, Int.toNat_natCast]
theorem any_none (l : List (Option C2)) : (l.map eO).any (fun x => x.eqv .non) = l.any (fun o => o.isNone) := by
  rw [List.any_map]
  refine congrArg (fun f => List.any l f) ?_
  funext o
  cases o with
  | none => rfl
  | some c => simp [eO, eC2, D.eqv]
theorem eO_dats {l : List (Option C2)} {n : Nat} : D.dats (n + 1) (l.map eO) = true := dats_iff.mpr fun x hx => by
  obtain ⟨c, _, rfl⟩ := List.mem_map.mp hx
  exact eO_dat
def sp_by : Spec := fun ds st P _ => ∃ a sa la w g el S L s, ds = [.loc a, eSt s] ∧ BestO st a sa la w g el S L ∧ (∀ q ∈ s.2.2, q ∈ L.map (·.1) ∧ OkP q) ∧ s.2.2 ≠ [] ∧ s.2.2.length ≤ sizeLine ∧ P (eO (byF L s.2)) st
theorem d_by (hc : Γ.cf "Best" "least" = true) : Does Γ 8 2 b_Best_by sp_by := by
  rintro ds st P ⟨a, sa, la, w, g, el, S, L, s, rfl, hb, hq, hne, hlen, hP⟩
  refine ⟨rfl, ?_⟩
  obtain ⟨nm, pr, qs⟩ := s
  simp only at hq hne hlen hP
  obtain ⟨ep, hl⟩ := hb.least
  unfold b_Best_by startE eSt
  try simp only [denSs, denS, den, denB, denP, denI, denEs, denO, asg, asgs, wipeE, items1, eS, List.map_cons, List.map_nil, List.cons_append, List.nil_append, List.length_cons, List.length_nil, List.replicate, Nat.add_zero, Nat.zero_add, Nat.reduceAdd, Nat.reduceSub, List.getElem?_cons_zero, List.getElem?_cons_succ, List.set_cons_zero, List.set_cons_succ, if_true, if_false, Bool.false_eq_true, reduceCtorEq]
  refine turns_map (g := vof L) _ [] (by simpa using hlen) (fun d hd k hk => ?_) ?_
  · obtain ⟨q, hqm, rfl⟩ := List.mem_map.mp hd
    refine ⟨_, _, _, hb.ins, hc, rfl, ?_⟩
    refine idx_e ePl_eqv hl (key_pl (hq q hqm).2) (getA_val (hq q hqm).1) ?_
    rw [vof_pl] at hk
    exact hk
  · have e1 : (qs.map ePl).map (vof L) = (qs.map fun q => val L q).map eO := by rw [List.map_map, List.map_map]; exact List.map_congr_left fun q _ => vof_pl L q
    rw [List.nil_append, e1]
    refine .inl ⟨_, rfl, by unfold D.dat; rfl, eO_dats, _, rfl, ?_⟩
    rw [any_none, List.any_map]
    have eany : (qs.any ((fun o => o.isNone) ∘ fun q => val L q)) = qs.any fun q => (val L q).isNone := rfl
    rw [eany]
    by_cases hn : qs.any (fun q => (val L q).isNone) = true
    · have : byF L (pr, qs) = none := by unfold byF; rw [if_pos hn]
      rw [this] at hP
      simp only [hn, if_true]
      try simp only [denSs, denS, den, denB, denP, denI, denEs, denO, asg, asgs, wipeE, items1, eS, List.map_cons, List.map_nil, List.cons_append, List.nil_append, List.length_cons, List.length_nil, List.replicate, Nat.add_zero, Nat.zero_add, Nat.reduceAdd, Nat.reduceSub, List.getElem?_cons_zero, List.getElem?_cons_succ, List.set_cons_zero, List.set_cons_succ, if_true, if_false, Bool.false_eq_true, reduceCtorEq]
      exact hP
    · have : byF L (pr, qs) = some (add2 pr (maxC (qs.map fun q => (val L q).getD (0, 0)))) := by unfold byF; rw [if_neg hn]
      rw [this] at hP
      rw [if_neg hn]
      try simp only [denSs, denS, den, denB, denP, denI, denEs, denO, asg, asgs, wipeE, items1, eS, List.map_cons, List.map_nil, List.cons_append, List.nil_append, List.length_cons, List.length_nil, List.replicate, Nat.add_zero, Nat.zero_add, Nat.reduceAdd, Nat.reduceSub, List.getElem?_cons_zero, List.getElem?_cons_succ, List.set_cons_zero, List.set_cons_succ, if_true, if_false, Bool.false_eq_true, reduceCtorEq]
      have e2 : (qs.map fun q => val L q).map eO = (qs.map fun q => (val L q).getD (0, 0)).map eC2 := by
        rw [List.map_map, List.map_map]
        refine List.map_congr_left fun q hqm => ?_
        simp only [Function.comp]
        cases z : val L q with
        | some c => rfl
        | none => exact (hn (List.any_eq_true.mpr ⟨q, hqm, by rw [z]; rfl⟩)).elim
      rw [e2]
      refine ⟨_, _, rfl, eC2_dats, all_alike_c _, maxL_c (by simpa using hne), ?_⟩
      refine ix_tup0 (ix_tup0 (ix_tup1 (ix_tup1 ?_)))
      exact ⟨(by decide : 2 ≤ sizeLine), hP⟩
/-- the steps of a place, as the plain part takes them -/
def stp (S : List (Pl × List St3)) : Stp Pl := fun p => ((getA S p).getD []).map (·.2)
/-- tables that belong together -/
structure Fit (S : List (Pl × List St3)) (L : Tbl Pl) : Prop where
  keys : S.map (·.1) = L.map (·.1)
  ok : ∀ p ∈ L.map (·.1), OkP p
  ends : ∀ p l, (p, l) ∈ S → l.length ≤ 1000 ∧ ∀ s ∈ l, s.2.2 ≠ [] ∧ s.2.2.length ≤ 100000 ∧ 1 ≤ s.2.1.2 ∧ PyData.strOk s.1 = true ∧ ∀ q ∈ s.2.2, q ∈ L.map (·.1)
theorem Fit.put {S : List (Pl × List St3)} {L : Tbl Pl} {p : Pl} {x : Option C2} (h : Fit S L) (hp : p ∈ L.map (·.1)) : Fit S (putA L p x) := by
  have e : (putA L p x).map (·.1) = L.map (·.1) := by rw [putA_keys, if_pos hp]
  exact ⟨by rw [e]; exact h.keys, by rw [e]; exact h.ok, by rw [e]; exact h.ends⟩
theorem some_filter (S : List (Pl × List St3)) (L : Tbl Pl) (l : List St3) : ((l.map fun s => byF L s.2).map eO).filter (fun d => match d with | .non => false | _ => true) = ((l.map (·.2)).filterMap (byF L)).map eC2 := by
  induction l with
  | nil => rfl
  | cons s l ih =>
    rw [List.map_cons, List.map_cons, List.map_cons, List.filterMap_cons, List.filter_cons]
    cases z : byF L s.2 with
    | none => exact ih
    | some c =>
      simp only [eO, List.map_cons]
      rw [← ih]
      rfl
theorem isnot_ev {st : Store} {d : D} {k : Bool → Prop} (q : k (match d with | .non => false | _ => true)) : cmpR st .IsNot d .non k := .inl ⟨rfl, q⟩
theorem is_ev {st : Store} {d : D} {k : Bool → Prop} (q : k (match d with | .non => true | _ => false)) : cmpR st .Is d .non k := .inl ⟨rfl, q⟩
def nnon (d : D) : Bool := match d with | .non => false | _ => true
theorem eO_nnon (o : Option C2) : nnon (eO o) = o.isSome := by cases o <;> rfl
theorem nnon_filter (L : Tbl Pl) (l : List St3) : ((l.map fun s => byF L s.2).map eO).filter nnon = ((l.map (·.2)).filterMap (byF L)).map eC2 := by
  induction l with
  | nil => rfl
  | cons s l ih =>
    rw [List.map_cons, List.map_cons, List.map_cons, List.filterMap_cons, List.filter_cons, eO_nnon]
    cases z : byF L s.2 with
    | none => exact ih
    | some c => simp only [Option.isSome_some, if_true, List.map_cons]; rw [ih]; rfl
theorem eq_lst {st : Store} {xs ys : List D} {k : Bool → Prop} (h1 : D.dats 59 xs = true) (h2 : D.dats 59 ys = true) (q : k ((D.lst xs).eqv (.lst ys))) : cmpR st .Eq (.lst xs) (.lst ys) k :=
  ⟨by simp only [rsv, D.dat]; exact h1, by simp only [rsv, D.dat]; exact h2, q⟩
def sp_is_better : Spec := fun ds st P _ => ∃ a sa la w g el S L p, ds = [.loc a, ePl p] ∧ BestO st a sa la w g el S L ∧ Fit S L ∧ p ∈ L.map (·.1) ∧ L.length < sizeLine ∧
  match betF (stp S) L p with
  | none => P (.bl false) st
  | some c => ∀ ep, P (.bl true) (st.set la (.dct (eKV ePl eO (putA L p (some c))) ep))
def eByD (L : Tbl Pl) (d : D) : D := match d with
  | .tup [_, .tup [.int a, .int b], .lst qs] => eO (byF L ((a.toNat, b.toNat), qs.map fun q => match q with | .tup [.tup s, .int a, .int b] => ⟨s.map sof, a.toNat, b.toNat⟩ | _ => ⟨[], 0, 0⟩))
  | _ => .non
theorem eByD_st (L : Tbl Pl) (s : St3) : eByD L (eSt s) = eO (byF L s.2) := by
  obtain ⟨n, ⟨x, y⟩, qs⟩ := s
  unfold eSt eC2
  simp only [eByD, Int.toNat_natCast]
  congr 2
  congr 1
  rw [List.map_map]
  refine (List.map_congr_left fun q _ => ?_).trans (List.map_id _)
  obtain ⟨s, a, b⟩ := q
  have : (s.map D.str).map sof = s := by rw [List.map_map]; exact List.map_id'' (fun _ => rfl) s
  simp only [Function.comp, ePl, eS, this, Int.toNat_natCast, id]
theorem getS {S : List (Pl × List St3)} {L : Tbl Pl} (h : Fit S L) {p : Pl} (hp : p ∈ L.map (·.1)) : ∃ l, getA S p = some l ∧ (p, l) ∈ S := by
  obtain ⟨l, hl⟩ := getA_mem (l := S) (k := p) (by rw [h.keys]; exact hp)
  exact ⟨l, hl, getA_some hl⟩
theorem d_is_better (hcl : Γ.cf "Best" "least" = true) (hcs : Γ.cf "Best" "steps" = true) (hby : Γ.me "Best" "by" = some sp_by) : Does Γ 5 2 b_Best_is_better sp_is_better := by
  rintro ds st P ⟨a, sa, la, w, g, el, S, L, p, rfl, hb, hf, hp, hz, hP⟩
  refine ⟨rfl, ?_⟩
  obtain ⟨ep1, hs1⟩ := hb.steps
  obtain ⟨ep2, hl2⟩ := hb.least
  obtain ⟨l, hl, hlm⟩ := getS hf hp
  obtain ⟨hll, hends⟩ := hf.ends p l hlm
  have hok := key_pl (hf.ok p hp)
  have hsome : someF (stp S) L p = (l.map (·.2)).filterMap (byF L) := by unfold someF stp; rw [hl]; rfl
  unfold b_Best_is_better startE
  try simp only [denSs, denS, den, denB, denP, denI, denEs, denO, asg, asgs, wipeE, items1, eS, List.map_cons, List.map_nil, List.cons_append, List.nil_append, List.length_cons, List.length_nil, List.replicate, Nat.add_zero, Nat.zero_add, Nat.reduceAdd, Nat.reduceSub, List.getElem?_cons_zero, List.getElem?_cons_succ, List.set_cons_zero, List.set_cons_succ, if_true, if_false, Bool.false_eq_true, reduceCtorEq]
  refine ⟨_, _, _, hb.ins, hcs, rfl, idx_e ePl_eqv hs1 hok hl ?_⟩
  simp only [eSts]
  refine turns_map (g := eByD L) _ [] (by simpa using sz1000 hll) (fun d hd k hk => ?_) ?_
  · obtain ⟨s, hsm, rfl⟩ := List.mem_map.mp hd
    obtain ⟨h1, h2, h3, h4, h5⟩ := hends s hsm
    refine ⟨_, hb.ins, rfl, ?_⟩
    rw [hby]
    refine ⟨a, sa, la, w, g, el, S, L, s, rfl, hb, fun q hq => ⟨h5 q hq, hf.ok q (h5 q hq)⟩, h1, Nat.le_trans h2 (by decide), ?_⟩
    rw [eByD_st] at hk
    exact hk
  · have e1 : (l.map eSt).map (eByD L) = (l.map fun s => byF L s.2).map eO := by rw [List.map_map, List.map_map]; exact List.map_congr_left fun s _ => eByD_st L s
    rw [List.nil_append, e1]
    refine turns_filter (c := nnon) (g := id) _ [] (by simpa using sz1000 hll) (fun d hd k h1 h2 => ?_) ?_
    · refine isnot_ev ⟨_, rfl, ?_⟩
      cases d <;> first | exact h2 rfl | exact h1 rfl
    · rw [List.nil_append, List.map_id, nnon_filter, ← hsome]
      refine ⟨Nat.zero_le _, eq_lst (ys := []) eC2_dats (by simp only [D.dats]) ?_⟩
      have e2 : (D.lst ((someF (stp S) L p).map eC2)).eqv (.lst []) = decide (someF (stp S) L p = []) := by
        simp only [eqv_nil]
        cases someF (stp S) L p <;> rfl
      rw [e2]
      unfold betF at hP
      by_cases hn : someF (stp S) L p = []
      · rw [if_pos hn] at hP
        simp only [hn, decide_true]
        refine ⟨_, rfl, ?_⟩
        simp only [reduceCtorEq, if_false, Bool.true_eq_false]
        exact ⟨_, rfl, hP⟩
      · rw [if_neg hn] at hP
        simp only [hn, decide_false]
        refine ⟨_, rfl, ?_⟩
        simp only [if_true]
        have fin : ∀ c, minC (someF (stp S) L p) = c → (∀ ep, P (.bl true) (st.set la (.dct (eKV ePl eO (putA L p (some c))) ep))) → ∃ t, D.bl false = D.bl t ∧ if t = true then P (D.bl false) st else
            biR st .min (.lst ((someF (stp S) L p).map eC2)) fun r => ∃ (c : Str) (fs : List (Str × D)) (d : D), insOf st (.loc a) = some (c, fs) ∧ Γ.cf c "least" = true ∧ fs.lookup ("least" : Str) = some d ∧ ∃ a ob, d = .loc a ∧ st a = some ob ∧ stoR ob (ePl p) r fun ob' => P (.bl true) (st.set a ob') := by
          intro c hm hq
          refine ⟨_, rfl, ?_⟩
          simp only [Bool.false_eq_true, if_false]
          refine ⟨_, _, rfl, eC2_dats, all_alike_c _, minL_c hn, ?_⟩
          refine ⟨_, _, _, hb.ins, hcl, rfl, la, _, rfl, hl2, ?_⟩
          refine ⟨hok, by rw [eKV_len]; exact hz, fun ep => ?_⟩
          have := put_e (e := ePl) (f := eO) ePl_eqv L p (some c)
          rw [hm, show eC2 c = eO (some c) from rfl, this]
          exact hq ep
        refine ⟨_, _, _, hb.ins, hcl, rfl, idx_e ePl_eqv hl2 hok (getA_val hp) (isnot_ev ⟨_, rfl, ?_⟩)⟩
        cases hv : val L p with
        | none =>
          rw [hv] at hP
          simp only [eO, Bool.false_eq_true, if_false]
          exact fin _ rfl hP
        | some c =>
          rw [hv] at hP
          simp only [eO, eC2, if_true]
          refine ⟨_, _, rfl, eC2_dats, all_alike_c _, minL_c hn, ?_⟩
          refine ⟨_, _, _, hb.ins, hcl, rfl, idx_e ePl_eqv hl2 hok (getA_val hp) ?_⟩
          rw [hv]
          refine ⟨by simp only [D.dats, D.dat, Bool.and_true], by simp only [D.dats, D.dat, Bool.and_true], rfl, ?_⟩
          rw [eC2_lts]
          cases hlt : cLt (minC (someF (stp S) L p)) c with
          | true =>
            simp only [hlt, if_true] at hP
            exact fin _ rfl hP
          | false =>
            simp only [hlt, Bool.false_eq_true, if_false] at hP
            exact ⟨_, rfl, hP⟩
end G
/-! Best.settle. -/
namespace G
open PySem PySem.Spec PyProof.Rows L2
variable {Γ : Ctx}
abbrev UL := List (Pl × (Addr × List Pl))
abbrev eLoc : Addr × List Pl → D := fun x => .loc x.1
def usOf (u : UL) (q : Pl) : List Pl := ((getA u q).map (·.2)).getD []
def addU (u : UL) (q p : Pl) (c : Addr) : UL := match getA u q with
  | some x => putA u q (x.1, insK x.2 p)
  | none => u ++ [(q, c, [p])]
structure UAt (st0 st : Store) (ua : Addr) (u : UL) : Prop where
  ext : Ext st0 st
  new : st0 ua = none
  at_ : ∃ ep, st ua = some (.dct (eKV ePl eLoc u) ep)
  in_ : ∀ e ∈ u, st0 e.2.1 = none ∧ e.2.1 ≠ ua ∧ ∃ ep, st e.2.1 = some (.dct (eT e.2.2) ep)
  keys : (u.map (·.1)).Nodup
  ads : (u.map (·.2.1)).Nodup
theorem putA_none {κ α : Type} [DecidableEq κ] {l : List (κ × α)} {k : κ} {x : α} (h : getA l k = none) : putA l k x = l ++ [(k, x)] := by unfold putA; rw [h]; rfl
theorem mem_addU {u : UL} {q p q' p' : Pl} {c : Addr} : p' ∈ usOf (addU u q p c) q' ↔ p' ∈ usOf u q' ∨ (p' = p ∧ q' = q) := by
  unfold addU usOf
  cases h : getA u q with
  | none =>
    simp only
    rw [← putA_none h, getA_put]
    by_cases e : q' = q
    · subst e; simp [h]
    · simp [e]
  | some x =>
    simp only
    rw [getA_put]
    by_cases e : q' = q
    · subst e; simp [h, mem_insK]
    · simp [e]
theorem addU_keys {u : UL} {q p : Pl} {c : Addr} : (addU u q p c).map (·.1) = if q ∈ u.map (·.1) then u.map (·.1) else u.map (·.1) ++ [q] := by
  unfold addU
  cases h : getA u q with
  | none => rw [if_neg (getA_none.mp h)]; simp
  | some x => exact putA_keys
/-- the entry of a key, in a list of pairwise unlike keys -/
theorem uniq_key {κ α : Type} [DecidableEq κ] {l : List (κ × α)} (n : (l.map (·.1)).Nodup) {k : κ} {x y : α} (h : (k, x) ∈ l) (g : getA l k = some y) : x = y := by
  induction l with
  | nil => cases h
  | cons p l ih =>
    rw [List.map_cons, List.nodup_cons] at n
    unfold getA at g ih
    rw [List.find?_cons] at g
    by_cases e : p.1 = k
    · simp only [e, decide_true, Option.map_some, Option.some.injEq] at g
      rcases List.mem_cons.mp h with z | z
      · rw [← g, ← z]
      · exact (n.1 (by rw [e]; exact List.mem_map.mpr ⟨_, z, rfl⟩)).elim
    · simp only [e, decide_false] at g
      rcases List.mem_cons.mp h with z | z
      · exact (e (by rw [← z])).elim
      · exact ih n.2 z g
theorem putA_some {κ α : Type} [DecidableEq κ] {l : List (κ × α)} {k : κ} {x y : α} (h : getA l k = some y) : putA l k x = l.map fun p => if p.1 = k then (p.1, x) else p := by unfold putA; rw [h]; rfl
theorem eLoc_put {u : UL} {q : Pl} {x : Addr × List Pl} {ps : List Pl} (n : (u.map (·.1)).Nodup) (h : getA u q = some x) : eKV ePl eLoc (putA u q (x.1, ps)) = eKV ePl eLoc u := by
  rw [putA_some h]
  unfold eKV
  rw [List.map_map]
  refine List.map_congr_left fun e he => ?_
  simp only [Function.comp]
  split
  · rename_i z
    have : (q, e.2) ∈ u := by rw [← z]; exact he
    have := uniq_key n this h
    rw [this]
  · rfl
theorem ads_put {u : UL} {q : Pl} {x : Addr × List Pl} {ps : List Pl} (n : (u.map (·.1)).Nodup) (h : getA u q = some x) : (putA u q (x.1, ps)).map (·.2.1) = u.map (·.2.1) := by
  rw [putA_some h, List.map_map]
  refine List.map_congr_left fun e he => ?_
  simp only [Function.comp]
  split
  · rename_i z
    have : (q, e.2) ∈ u := by rw [← z]; exact he
    have := uniq_key n this h
    rw [this]
  · rfl
/-- the inner dict written -/
theorem UAt.write {st0 st : Store} {ua : Addr} {u : UL} {q : Pl} {x : Addr × List Pl} (h : UAt st0 st ua u) (g : getA u q = some x) (ps : List Pl) (ep : Nat) : UAt st0 (st.set x.1 (.dct (eT ps) ep)) ua (putA u q (x.1, ps)) := by
  have hx := h.in_ _ (getA_some g)
  simp only at hx
  obtain ⟨h1, h2, h3⟩ := hx
  refine ⟨h.ext.bump h1, h.new, ?_, fun e he => ?_, ?_, ?_⟩
  · obtain ⟨e, k⟩ := h.at_
    exact ⟨e, by rw [set_ne (Ne.symm h2), eLoc_put h.keys g]; exact k⟩
  · rw [putA_some g] at he
    obtain ⟨e', he', rfl⟩ := List.mem_map.mp he
    split
    · exact ⟨h1, h2, ep, Store.set_same⟩
    · rename_i z
      obtain ⟨a1, a2, e2, a3⟩ := h.in_ e' he'
      refine ⟨a1, a2, e2, ?_⟩
      rw [set_ne]
      · exact a3
      · intro w
        have i1 : (e'.2.1) ∈ u.map (·.2.1) := List.mem_map.mpr ⟨e', he', rfl⟩
        have n := h.ads
        have hq := getA_some g
        have : e' = (q, x) := by
          obtain ⟨i, hi⟩ := List.mem_iff_getElem?.mp he'
          obtain ⟨j, hj⟩ := List.mem_iff_getElem?.mp hq
          have hi' : (u.map (·.2.1))[i]? = some e'.2.1 := by rw [List.getElem?_map, hi]; rfl
          have hj' : (u.map (·.2.1))[j]? = some x.1 := by rw [List.getElem?_map, hj]; rfl
          have hil : i < (u.map (·.2.1)).length := (List.getElem?_eq_some_iff.mp hi').1
          have := (List.getElem?_inj hil n).mp (hi'.trans ((congrArg some w).trans hj'.symm))
          subst this
          rw [hi] at hj
          exact Option.some.inj hj
        exact z (by rw [this])
  · rw [putA_keys]
    split
    · exact h.keys
    · rename_i z
      exact (z (List.mem_map.mpr ⟨_, getA_some g, rfl⟩)).elim
  · rw [ads_put h.keys g]; exact h.ads
/-- a key more -/
theorem UAt.more {st0 st : Store} {ua c : Addr} {u : UL} {q : Pl} (h : UAt st0 st ua u) (g : getA u q = none) (hc : st c = none) (ep ep' : Nat) : UAt st0 ((st.set c (.dct [] ep)).set ua (.dct (eKV ePl eLoc (putA u q (c, []))) ep')) ua (putA u q (c, [])) := by
  have nc : st0 c = none := by
    cases z : st0 c with
    | none => rfl
    | some o => rw [h.ext _ _ z] at hc; cases hc
  have ne : c ≠ ua := fun z => by obtain ⟨e, k⟩ := h.at_; rw [← z, hc] at k; cases k
  refine ⟨(h.ext.bump nc).bump h.new, h.new, ⟨ep', Store.set_same⟩, fun e he => ?_, ?_, ?_⟩
  · rw [putA_none g] at he
    rcases List.mem_append.mp he with he | he
    · obtain ⟨a1, a2, e2, a3⟩ := h.in_ e he
      refine ⟨a1, a2, e2, ?_⟩
      rw [set_ne a2, set_ne (fun z => by rw [z, hc] at a3; cases a3)]
      exact a3
    · rw [List.mem_singleton] at he
      subst he
      exact ⟨nc, ne, ep, by rw [set_ne ne, Store.set_same]; rfl⟩
  · rw [putA_keys, if_neg (getA_none.mp g), List.nodup_append]
    exact ⟨h.keys, by simp, fun a ha b hb => by rw [List.mem_singleton] at hb; subst hb; exact fun e => getA_none.mp g (e ▸ ha)⟩
  · rw [putA_none g, List.map_append, List.nodup_append]
    refine ⟨h.ads, by simp, fun a ha b hb => ?_⟩
    simp only [List.map_cons, List.map_nil, List.mem_singleton] at hb
    subst hb
    obtain ⟨e, he, rfl⟩ := List.mem_map.mp ha
    obtain ⟨_, _, e2, a3⟩ := h.in_ e he
    intro z
    rw [z, hc] at a3; cases a3
theorem UAt.junk {st0 st : Store} {ua c : Addr} {u : UL} {o : Ob} (h : UAt st0 st ua u) (hc : st c = none) : UAt st0 (st.set c o) ua u := by
  have nc : st0 c = none := by
    cases z : st0 c with
    | none => rfl
    | some o => rw [h.ext _ _ z] at hc; cases hc
  refine ⟨h.ext.bump nc, h.new, ?_, fun e he => ?_, h.keys, h.ads⟩
  · obtain ⟨e, k⟩ := h.at_
    exact ⟨e, by rw [set_ne (fun z => by rw [z, hc] at k; cases k)]; exact k⟩
  · obtain ⟨a1, a2, e2, a3⟩ := h.in_ e he
    exact ⟨a1, a2, e2, by rw [set_ne (fun z => by rw [z, hc] at a3; cases a3)]; exact a3⟩
theorem orD_some {o : Option D} {v : D} {f : D → Prop} {g : Prop} (h : o = some v) (q : f v) : orD o f g := by rw [h]; exact q
theorem orD_none {o : Option D} {f : D → Prop} {g : Prop} (h : o = none) (q : g) : orD o f g := by rw [h]; exact q
/-- users.setdefault(one, {})[place] = True -/
theorem settle_1 {K : Kn} {st0 st : Store} {ua : Addr} {u : UL} {q p : Pl} {o0 o3 o5 o6 o7 o8 : Option D} (h : UAt st0 st ua u) (hq : OkP q) (hp : OkP p) (hu : u.length < 1000000) (hz : ∀ e ∈ u, e.2.2.length < 1000000)
    (hK : ∀ c st', UAt st0 st' ua (addU u q p c) → K.nx [o0, some (.loc ua), some (ePl p), o3, some (ePl q), o5, o6, o7, o8] st') :
    denSs Γ X0 b_Best_settle_1 K [o0, some (.loc ua), some (ePl p), o3, some (ePl q), o5, o6, o7, o8] st := by
  have big : (1000000 : Nat) < sizeLine := by decide
  obtain ⟨ep0, e0⟩ := h.at_
  unfold b_Best_settle_1
  try simp only [denSs, denS, den, denB, denP, denI, denEs, denO, asg, asgs, wipeE, items1, eS, List.map_cons, List.map_nil, List.cons_append, List.nil_append, List.length_cons, List.length_nil, List.replicate, Nat.add_zero, Nat.zero_add, Nat.reduceAdd, Nat.reduceSub, List.getElem?_cons_zero, List.getElem?_cons_succ, List.set_cons_zero, List.set_cons_succ, if_true, if_false, Bool.false_eq_true, reduceCtorEq]
  refine ⟨ua, _, ep0, rfl, e0, fun ep c hc => ?_⟩
  have ne : ua ≠ c := fun z => by rw [z, hc] at e0; cases e0
  refine ⟨_, ep0, by rw [set_ne ne]; exact e0, key_pl hq, by rw [eKV_len]; omega, ?_⟩
  have hl : look (eKV ePl eLoc u) (ePl q) = (getA u q).map eLoc := look_e ePl_eqv u q
  cases g : getA u q with
  | some x =>
    rw [g] at hl
    refine orD_some hl ?_
    have h1 := h.junk (c := c) (o := .dct [] ep) hc
    obtain ⟨a1, a2, e2, a3⟩ := h1.in_ _ (getA_some g)
    refine ⟨x.1, _, rfl, a3, key_pl hp, ?_, fun ep3 => ?_⟩
    · rw [eKs_len]
      have w : x.2.length < 1000000 := hz _ (getA_some g)
      exact Nat.lt_trans w big
    · rw [put_ks ePl_eqv]
      refine hK c _ ?_
      have := h1.write g (insK x.2 p) ep3
      unfold addU
      rw [g]
      exact this
  | none =>
    rw [g] at hl
    refine orD_none hl fun ep2 => ?_
    have h1 := h.more g hc ep ep2
    have e1 : put (eKV ePl eLoc u) (ePl q) (.loc c) = eKV ePl eLoc (putA u q (c, [])) := put_e (f := eLoc) ePl_eqv u q (c, [])
    rw [e1]
    have g2 : getA (putA u q (c, ([] : List Pl))) q = some (c, []) := by rw [getA_put, if_pos rfl]
    refine ⟨c, .dct [] ep, rfl, by rw [set_ne (Ne.symm ne), Store.set_same], key_pl hp, by simp; omega, fun ep3 => ?_⟩
    have h2 := h1.write g2 [p] ep3
    refine hK c _ ?_
    have e3 : put [] (ePl p) (.bl true) = eT [p] := rfl
    rw [e3]
    have e4 : addU u q p c = putA (putA u q (c, ([] : List Pl))) q (c, [p]) := by
      unfold addU
      rw [g]
      simp only
      rw [putA_none g, putA_some (by rw [← putA_none g]; exact g2), List.map_append]
      congr 1
      · refine (List.map_id _).symm.trans (List.map_congr_left fun e he => ?_)
        have : ¬ e.1 = q := fun z => getA_none.mp g (List.mem_map.mpr ⟨e, he, z⟩)
        simp [this]
      · simp
    rw [e4]
    exact h2
/-- all is of known places -/
structure UOk (ks : List Pl) (u : UL) : Prop where
  keys : ∀ q ∈ u.map (·.1), q ∈ ks
  vals : ∀ e ∈ u, e.2.2.Nodup ∧ ∀ p ∈ e.2.2, p ∈ ks
theorem UOk.add {ks : List Pl} {u : UL} {q p : Pl} {c : Addr} (h : UOk ks u) (hq : q ∈ ks) (hp : p ∈ ks) : UOk ks (addU u q p c) := by
  refine ⟨fun r hr => ?_, fun e he => ?_⟩
  · rw [addU_keys] at hr
    split at hr
    · exact h.keys r hr
    · rcases List.mem_append.mp hr with z | z
      · exact h.keys r z
      · rw [List.mem_singleton.mp z]; exact hq
  · unfold addU at he
    cases g : getA u q with
    | none =>
      rw [g] at he
      rcases List.mem_append.mp he with z | z
      · exact h.vals e z
      · rw [List.mem_singleton.mp z]
        exact ⟨by simp, fun r hr => by rw [List.mem_singleton.mp hr]; exact hp⟩
    | some x =>
      rw [g] at he
      simp only at he
      rw [putA_some g] at he
      obtain ⟨e', he', rfl⟩ := List.mem_map.mp he
      have hx := h.vals _ (getA_some g)
      simp only at hx
      split
      · refine ⟨nodup_insK hx.1, fun r hr => ?_⟩
        rcases mem_insK.mp hr with z | z
        · exact hx.2 r z
        · rw [z]; exact hp
      · exact h.vals e' he'
def endsOf (l : List St3) : List Pl := l.flatMap (·.2.2)
theorem mem_endsOf {l : List St3} {q : Pl} : q ∈ endsOf l ↔ ∃ s ∈ l, q ∈ s.2.2 := by unfold endsOf; rw [List.mem_flatMap]
/-- the walk over all ends behind one place -/
theorem settle_2 {K : Kn} {st0 st : Store} {ua : Addr} {u : UL} {ks : List Pl} {p : Pl} {l : List St3} {o0 o4 o5 o6 o7 o8 : Option D} (h : UAt st0 st ua u) (hu : UOk ks u) (hks : ∀ q ∈ ks, OkP q) (hkl : ks.length < 1000000) (hp : p ∈ ks) (hl : ∀ s ∈ l, ∀ q ∈ s.2.2, q ∈ ks) (hz : (endsOf l).length ≤ sizeLine)
    (hK : ∀ u' o4 o7 o8 st', UAt st0 st' ua u' → UOk ks u' → (∀ p' q', p' ∈ usOf u' q' ↔ p' ∈ usOf u q' ∨ (p' = p ∧ q' ∈ endsOf l)) → K.nx [o0, some (.loc ua), some (ePl p), some (eSts l), o4, o5, o6, o7, o8] st') :
    denSs Γ X0 b_Best_settle_2 K [o0, some (.loc ua), some (ePl p), some (eSts l), o4, o5, o6, o7, o8] st := by
  unfold b_Best_settle_2 eSts
  try simp only [denSs, denS, den, denB, denP, denI, denEs, denO, asg, asgs, wipeE, items1, eS, List.map_cons, List.map_nil, List.cons_append, List.nil_append, List.length_cons, List.length_nil, List.replicate, Nat.add_zero, Nat.zero_add, Nat.reduceAdd, Nat.reduceSub, List.getElem?_cons_zero, List.getElem?_cons_succ, List.set_cons_zero, List.set_cons_succ, if_true, if_false, Bool.false_eq_true, reduceCtorEq]
  have e1 : (l.map eSt).flatMap (fun d => match d with | .tup [_, _, .lst qs] => qs | _ => []) = (endsOf l).map ePl := by
    unfold endsOf
    exact flat_map_map (γ := Nat) (δ := Nat) eSt l _ (·.2.2) ePl fun s => rfl
  refine turnsA_app (h := fun d => match d with | .tup [_, _, .lst qs] => qs | _ => []) _ [] (by rw [e1]; simpa using hz) (fun d hd acc k h1 hk => ?_) ?_
  · obtain ⟨s, hs, rfl⟩ := List.mem_map.mp hd
    unfold eSt at h1 hk ⊢
    refine ⟨_, rfl, ?_⟩
    try simp only [denSs, denS, den, denB, denP, denI, denEs, denO, asg, asgs, wipeE, items1, eS, List.map_cons, List.map_nil, List.cons_append, List.nil_append, List.length_cons, List.length_nil, List.replicate, Nat.add_zero, Nat.zero_add, Nat.reduceAdd, Nat.reduceSub, List.getElem?_cons_zero, List.getElem?_cons_succ, List.set_cons_zero, List.set_cons_succ, if_true, if_false, Bool.false_eq_true, reduceCtorEq]
    refine ix_tup2 ?_
    try simp only [denSs, denS, den, denB, denP, denI, denEs, denO, asg, asgs, wipeE, items1, eS, List.map_cons, List.map_nil, List.cons_append, List.nil_append, List.length_cons, List.length_nil, List.replicate, Nat.add_zero, Nat.zero_add, Nat.reduceAdd, Nat.reduceSub, List.getElem?_cons_zero, List.getElem?_cons_succ, List.set_cons_zero, List.set_cons_succ, if_true, if_false, Bool.false_eq_true, reduceCtorEq]
    refine turnsA_one (g := id) _ _ (by simp only [List.length_append, List.length_map] at h1 ⊢; exact h1) (fun e he acc k ha hk => ?_) (by simpa using hk)
    exact ⟨_, rfl, ha, hk⟩
  · rw [List.nil_append, e1]
    try simp only [denSs, denS, den, denB, denP, denI, denEs, denO, asg, asgs, wipeE, items1, eS, List.map_cons, List.map_nil, List.cons_append, List.nil_append, List.length_cons, List.length_nil, List.replicate, Nat.add_zero, Nat.zero_add, Nat.reduceAdd, Nat.reduceSub, List.getElem?_cons_zero, List.getElem?_cons_succ, List.set_cons_zero, List.set_cons_succ, if_true, if_false, Bool.false_eq_true, reduceCtorEq]
    have hin : ∀ q ∈ endsOf l, q ∈ ks := fun q hq => by
      obtain ⟨s, hs, hq⟩ := mem_endsOf.mp hq
      exact hl s hs q hq
    refine forL_inv (fun j ρ st' => ∃ u' o4, ρ = [o0, some (.loc ua), some (ePl p), some (.lst (l.map eSt)), o4, o5, o6, o7, o8] ∧ UAt st0 st' ua u' ∧ UOk ks u' ∧ (∀ p' q', p' ∈ usOf u' q' ↔ p' ∈ usOf u q' ∨ (p' = p ∧ q' ∈ (endsOf l).take j))) _ 0 _ _
      ⟨u, o4, rfl, h, hu, fun p' q' => by simp⟩ ?_ ?_
    · rintro j d ρ st1 N hj ⟨u', o4, rfl, h1, h2, h3⟩ hN
      rw [Nat.zero_add] at h3 hN
      rw [List.getElem?_map, Option.map_eq_some_iff] at hj
      obtain ⟨q, hj, rfl⟩ := hj
      have hq := hin q (List.mem_of_getElem? hj)
      simp only [asg, List.set_cons_zero, List.set_cons_succ]
      refine settle_1 h1 (hks q hq) (hks p hp) ?_ ?_ fun c st' h4 => ?_
      · have := List.Nodup.length_le_of_subset h1.keys (l₂ := ks) fun r hr => h2.keys r hr
        rw [List.length_map] at this
        omega
      · intro e he
        have := List.Nodup.length_le_of_subset (h2.vals e he).1 (l₂ := ks) fun r hr => (h2.vals e he).2 r hr
        omega
      · refine hN _ _ ⟨_, _, rfl, h4, h2.add hq hp, fun p' q' => ?_⟩
        have e : (endsOf l).take (j + 1) = (endsOf l).take j ++ [q] := by rw [List.take_add_one, hj]; rfl
        rw [mem_addU, h3, e, List.mem_append, List.mem_singleton, or_assoc]
        refine or_congr_right ?_
        constructor
        · rintro (⟨a, b⟩ | ⟨a, b⟩)
          · exact ⟨a, .inl b⟩
          · exact ⟨a, .inr b⟩
        · rintro ⟨a, b | b⟩
          · exact .inl ⟨a, b⟩
          · exact .inr ⟨a, b⟩
    · rintro ρ st1 ⟨u', o4, rfl, h1, h2, h3⟩
      rw [Nat.zero_add, List.length_map, List.take_length] at h3
      exact hK _ _ _ _ _ h1 h2 h3
/-! ### the rounds -/
/-- all but two objects stand -/
def Ext2 (x y : Addr) (st st' : Store) : Prop := ∀ b o, b ≠ x → b ≠ y → st b = some o → st' b = some o
theorem Ext2.refl {x y : Addr} (st : Store) : Ext2 x y st st := fun _ _ _ _ h => h
theorem Ext2.trans {x y : Addr} {a b c : Store} (h : Ext2 x y a b) (k : Ext2 x y b c) : Ext2 x y a c := fun z o n m e => k z o n m (h z o n m e)
/-- the table, the line -/
structure WAt (st : Store) (a sa la ln : Addr) (w : Wr) (g : Pr) (el : Option (List (Pl × Str))) (S : List (Pl × List St3)) (s : Tbl Pl × List Pl) : Prop where
  best : BestO st a sa la w g el S s.1
  line : st ln = some (.lst (s.2.map ePl))
/-- what the program knows for the rounds -/
structure Rds (Γ : Ctx) : Prop where
  least : Γ.cf "Best" "least" = true
  steps : Γ.cf "Best" "steps" = true
  nought : Γ.gl "NOUGHT" = some (.tup [.int 0, .int 0])
  better : Γ.me "Best" "is_better" = some sp_is_better
theorem ne_ev {st : Store} {a b : Option C2} {k : Bool → Prop} (q : k (!decide (a = b))) : cmpR st .NotEq (eO a) (eO b) k := by
  have e : ∀ o : Option C2, rsv st (eO o) = eO o := fun o => by cases o <;> rfl
  refine ⟨by rw [e]; exact eO_dat, by rw [e]; exact eO_dat, ?_⟩
  rw [e, e, eO_eqv]
  exact q
theorem eq_ev {st : Store} {a b : Option C2} {k : Bool → Prop} (q : k (decide (a = b))) : cmpR st .Eq (eO a) (eO b) k := by
  have e : ∀ o : Option C2, rsv st (eO o) = eO o := fun o => by cases o <;> rfl
  refine ⟨by rw [e]; exact eO_dat, by rw [e]; exact eO_dat, ?_⟩
  rw [e, e, eO_eqv]
  exact q
theorem nought_e : (D.tup [.int 0, .int 0]) = eO (some (0, 0)) := rfl
theorem settle_3 (R : Rds Γ) {K : Kn} {st : Store} {a sa la ln : Addr} {w : Wr} {g : Pr} {el : Option (List (Pl × Str))} {S : List (Pl × List St3)} {s : Tbl Pl × List Pl} {p : Pl} {o1 o3 o4 o6 o7 o8 : Option D} (h : WAt st a sa la ln w g el S s) (hf : Fit S s.1) (hp : p ∈ s.1.map (·.1)) (hz : s.1.length < sizeLine) (hn : s.2.length < sizeLine)
    (hK : ∀ st', WAt st' a sa la ln w g el S (turnS (stp S) s p) → Ext2 la ln st st' → K.nx [some (.loc a), o1, some (ePl p), o3, o4, some (.loc ln), o6, o7, o8] st') :
    denSs Γ X0 b_Best_settle_3 K [some (.loc a), o1, some (ePl p), o3, o4, some (.loc ln), o6, o7, o8] st := by
  obtain ⟨ep2, hl2⟩ := h.best.least
  have hok := key_pl (hf.ok p hp)
  have nl : ln ≠ la := fun z => by have := h.line; rw [z, hl2] at this; cases this
  obtain ⟨L, line⟩ := s
  simp only at hf hp hz hn hl2 hK
  unfold b_Best_settle_3
  try simp only [denSs, denS, den, denB, denP, denI, denEs, denO, asg, asgs, wipeE, items1, eS, List.map_cons, List.map_nil, List.cons_append, List.nil_append, List.length_cons, List.length_nil, List.replicate, Nat.add_zero, Nat.zero_add, Nat.reduceAdd, Nat.reduceSub, List.getElem?_cons_zero, List.getElem?_cons_succ, List.set_cons_zero, List.set_cons_succ, if_true, if_false, Bool.false_eq_true, reduceCtorEq]
  refine ⟨_, _, _, h.best.ins, R.least, rfl, idx_e ePl_eqv hl2 hok (getA_val hp) ?_⟩
  rw [R.nought]
  simp only
  rw [nought_e]
  refine ne_ev ⟨_, rfl, ?_⟩
  by_cases hv : val L p = some (0, 0)
  · simp only [hv, decide_true, Bool.not_true, Bool.false_eq_true, if_false]
    refine ⟨_, rfl, ?_⟩
    simp only [Bool.false_eq_true, if_false]
    refine hK _ ?_ (Ext2.refl _)
    have : turnS (stp S) (L, line) p = (L, line) := by unfold turnS; rw [if_pos hv]
    rw [this]; exact h
  · simp only [hv, decide_false, Bool.not_false, if_true]
    refine ⟨_, h.best.ins, rfl, ?_⟩
    rw [R.better]
    refine ⟨a, sa, la, w, g, el, S, L, p, rfl, h.best, hf, hp, hz, ?_⟩
    cases hb : betF (stp S) L p with
    | none =>
      have : turnS (stp S) (L, line) p = (L, line) := by unfold turnS; rw [if_neg hv, hb]
      rw [this] at hK
      refine ⟨_, rfl, ?_⟩
      simp only [Bool.false_eq_true, if_false]
      exact hK _ h (Ext2.refl _)
    | some c =>
      have : turnS (stp S) (L, line) p = (putA L p (some c), line ++ [p]) := by unfold turnS; rw [if_neg hv, hb]
      rw [this] at hK
      intro ep
      refine ⟨_, rfl, ?_⟩
      simp only [if_true]
      have e1 : (st.set la (.dct (eKV ePl eO (putA L p (some c))) ep)) ln = some (.lst (line.map ePl)) := by rw [set_ne nl]; exact h.line
      refine ⟨ln, _, rfl, e1, _, e1, by rw [List.length_map]; exact hn, ?_⟩
      refine hK _ ⟨?_, by rw [Store.set_same, List.map_append]; rfl⟩ fun b o n1 n2 e => by rw [set_ne n2, set_ne n1]; exact e
      have b1 := h.best.set (L' := putA L p (some c)) ep
      obtain ⟨e3, e4⟩ := b1.steps
      obtain ⟨e5, e6⟩ := b1.least
      refine ⟨?_, ⟨e3, ?_⟩, ⟨e5, ?_⟩, b1.ne⟩
      · rw [set_ne (fun z => by have := b1.at_; rw [z, e1] at this; cases this)]; exact b1.at_
      · rw [set_ne (fun z => by rw [z, e1] at e4; cases e4)]; exact e4
      · rw [set_ne (Ne.symm nl)]; exact e6
/-- a promise of states that the rounds keep -/
structure Keeps (S : List (Pl × List St3)) (ks : List Pl) (I : Tbl Pl × List Pl → Prop) : Prop where
  turn : ∀ s p, I s → p ∈ ks → I (turnS (stp S) s p)
  keys : ∀ s, I s → s.1.map (·.1) = ks
  fit : ∀ s, I s → Fit S s.1
  len : ∀ s, I s → s.1.length < sizeLine ∧ s.2.length < sizeLine
abbrev eUs (us : List (Pl × List Pl)) : D := .dct (eKV ePl (fun ps => .dct (eT ps)) us)
def usF (us : List (Pl × List Pl)) (q : Pl) : List Pl := (getA us q).getD []
theorem settle_4 (R : Rds Γ) {K : Kn} {st : Store} {a sa la ln : Addr} {w : Wr} {g : Pr} {el : Option (List (Pl × Str))} {S : List (Pl × List St3)} {ks : List Pl} {I : Tbl Pl × List Pl → Prop} (k : Keeps S ks I) {us : List (Pl × List Pl)} (hus : ∀ q ∈ ks, ∀ p ∈ usF us q, p ∈ ks) {s : Tbl Pl × List Pl} {q : Pl} {at_ : Nat} {o2 o3 o4 o7 o8 : Option D} (h : WAt st a sa la ln w g el S s) (hi : I s) (hq : s.2[at_]? = some q) (hqk : q ∈ ks)
    (hK : ∀ o2 st', WAt st' a sa la ln w g el S ((usF us q).foldl (turnS (stp S)) s) → I ((usF us q).foldl (turnS (stp S)) s) → Ext2 la ln st st' → K.nx [some (.loc a), some (eUs us), o2, o3, o4, some (.loc ln), some (.int ((at_ + 1 : Nat) : Int)), o7, o8] st') :
    denSs Γ X0 b_Best_settle_4 K [some (.loc a), some (eUs us), o2, o3, o4, some (.loc ln), some (.int at_), o7, o8] st := by
  have hokq : OkP q := (k.fit s hi).ok q (by rw [k.keys s hi]; exact hqk)
  unfold b_Best_settle_4
  try simp only [denSs, denS, den, denB, denP, denI, denEs, denO, asg, asgs, wipeE, items1, eS, List.map_cons, List.map_nil, List.cons_append, List.nil_append, List.length_cons, List.length_nil, List.replicate, Nat.add_zero, Nat.zero_add, Nat.reduceAdd, Nat.reduceSub, List.getElem?_cons_zero, List.getElem?_cons_succ, List.set_cons_zero, List.set_cons_succ, if_true, if_false, Bool.false_eq_true, reduceCtorEq]
  refine ⟨_, rfl, ix_loc h.line (at_nat (by rw [List.getElem?_map, hq]; rfl)) fun ep => ⟨_, rfl, key_pl hokq, ?_⟩⟩
  have elk : (look (eKV ePl (fun ps => D.dct (eT ps)) us) (ePl q)).getD (.dct []) = .dct (eT (usF us q)) := by
    rw [look_e ePl_eqv]
    unfold usF
    cases getA us q <;> rfl
  rw [elk]
  refine .inl ⟨_, rfl, ?_⟩
  have ek : (eT (usF us q)).map (fun p => p.1) = (usF us q).map ePl := eT_keys _
  rw [ek]
  refine forL_inv (fun j ρ st' => ∃ o2, ρ = [some (.loc a), some (eUs us), o2, o3, o4, some (.loc ln), some (.int at_), o7, o8] ∧ WAt st' a sa la ln w g el S (((usF us q).take j).foldl (turnS (stp S)) s) ∧ I (((usF us q).take j).foldl (turnS (stp S)) s) ∧ Ext2 la ln st st') _ 0 _ _
    ⟨o2, rfl, h, hi, Ext2.refl _⟩ ?_ ?_
  · rintro j d ρ st1 N hj ⟨o2, rfl, h1, i1, x1⟩ hN
    rw [Nat.zero_add] at h1 i1 hN
    rw [List.getElem?_map, Option.map_eq_some_iff] at hj
    obtain ⟨p, hj, rfl⟩ := hj
    have hp := hus q hqk p (List.mem_of_getElem? hj)
    simp only [asg, List.set_cons_zero, List.set_cons_succ]
    obtain ⟨l1, l2⟩ := k.len _ i1
    have e : (usF us q).take (j + 1) = (usF us q).take j ++ [p] := by rw [List.take_add_one, hj]; rfl
    refine settle_3 R h1 (k.fit _ i1) (by rw [k.keys _ i1]; exact hp) l1 l2 fun st' h2 x2 => hN _ _ ⟨_, rfl, ?_, ?_, x1.trans x2⟩
    · rw [e, List.foldl_append]; exact h2
    · rw [e, List.foldl_append]; exact k.turn _ _ i1 hp
  · rintro ρ st1 ⟨o2, rfl, h1, i1, x1⟩
    rw [Nat.zero_add, List.length_map, List.take_length] at h1 i1
    try simp only [denSs, denS, den, denB, denP, denI, denEs, denO, asg, asgs, wipeE, items1, eS, List.map_cons, List.map_nil, List.cons_append, List.nil_append, List.length_cons, List.length_nil, List.replicate, Nat.add_zero, Nat.zero_add, Nat.reduceAdd, Nat.reduceSub, List.getElem?_cons_zero, List.getElem?_cons_succ, List.set_cons_zero, List.set_cons_succ, if_true, if_false, Bool.false_eq_true, reduceCtorEq]
    refine ⟨_, _, rfl, rfl, ?_⟩
    exact hK o2 st1 h1 i1 x1
end G
/-! Best.settle: the whole. -/
namespace G
open PySem PySem.Spec PyProof.Rows L2
variable {Γ : Ctx}
/-- all but one object stand -/
def ExtB (x : Addr) (st st' : Store) : Prop := ∀ b o, b ≠ x → st b = some o → st' b = some o
theorem getA_iff {κ α : Type} [DecidableEq κ] {l : List (κ × α)} (n : (l.map (·.1)).Nodup) {k : κ} {x : α} : (k, x) ∈ l ↔ getA l k = some x := by
  constructor
  · intro h
    obtain ⟨y, hy⟩ := getA_mem (l := l) (k := k) (List.mem_map.mpr ⟨_, h, rfl⟩)
    rw [hy, uniq_key n h hy]
  · exact getA_some
theorem runS_fix {α : Type} [DecidableEq α] {us : α → List α} {steps : Stp α} {s : Tbl α × List α × Nat} (h : s.2.1.length ≤ s.2.2) : ∀ n, runS us steps n s = s
  | 0 => rfl
  | n + 1 => by
    have e : stepS us steps s = s := by unfold stepS; rw [List.getElem?_eq_none h]
    show runS us steps n (stepS us steps s) = s
    rw [e]
    exact runS_fix h n
def usl (u : UL) : List (Pl × List Pl) := u.map fun e => (e.1, e.2.2)
theorem usF_usl (u : UL) (q : Pl) : usF (usl u) q = usOf u q := by
  unfold usF usOf usl
  congr 1
  induction u with
  | nil => rfl
  | cons e u ih =>
    unfold getA at ih ⊢
    rw [List.map_cons, List.find?_cons, List.find?_cons]
    by_cases h : e.1 = q
    · simp [h]
    · simp only [h, decide_false]; exact ih
theorem lt_ev {st : Store} {a b : Int} {k : Bool → Prop} (q : k (decide (a < b))) : cmpR st .Lt (.int a) (.int b) k := by rw [ci_lt]; exact q
/-- the rounds, till the line is at its end -/
theorem settle_while (R : Rds Γ) {cnd : M} {K : Kn} {a sa la ln : Addr} {w : Wr} {g : Pr} {el : Option (List (Pl × Str))} {S : List (Pl × List St3)} {ks : List Pl} {I : Tbl Pl × List Pl → Prop} (k : Keeps S ks I) {us : List (Pl × List Pl)} (hus : ∀ q ∈ ks, ∀ p ∈ usF us q, p ∈ ks) {st0 : Store} {o3 o4 o7 o8 : Option D}
    (hc : ∀ (o1 o2 : Option D) (st : Store) (n : Nat) (xs : List D) (Q : Post), st ln = some (.lst xs) → Q (.bl (decide (n < xs.length))) st → cnd [some (.loc a), o1, o2, o3, o4, some (.loc ln), some (.int (Nat.cast n)), o7, o8] st Q) : ∀ (n : Nat) (s : Tbl Pl × List Pl × Nat) (st : Store) (o2 : Option D),
    (runS (usF us) (stp S) n s).2.1.length ≤ (runS (usF us) (stp S) n s).2.2 → WAt st a sa la ln w g el S (s.1, s.2.1) → I (s.1, s.2.1) → (∀ m, ∀ q ∈ (runS (usF us) (stp S) m s).2.1, q ∈ ks) → Ext2 la ln st0 st →
    (∀ st' o2 n', WAt st' a sa la ln w g el S ((runS (usF us) (stp S) n s).1, (runS (usF us) (stp S) n s).2.1) → I ((runS (usF us) (stp S) n s).1, (runS (usF us) (stp S) n s).2.1) → Ext2 la ln st0 st' → K.nx [some (.loc a), some (eUs us), o2, o3, o4, some (.loc ln), some (.int (Nat.cast n')), o7, o8] st') →
    whlN cnd (fun ρ st K => denSs Γ X0 b_Best_settle_4 K ρ st) K (n + 1) [some (.loc a), some (eUs us), o2, o3, o4, some (.loc ln), some (.int s.2.2), o7, o8] st := by
  intro n
  induction n with
  | zero =>
    intro s st o2 he h hi hl hx hK
    have he : s.2.1.length ≤ s.2.2 := he
    unfold whlN
    refine hc _ _ _ _ _ _ h.line ⟨_, rfl, ?_⟩
    have : ¬ (s.2.2 < (s.2.1.map ePl).length) := by rw [List.length_map]; omega
    simp only [this, decide_false, Bool.false_eq_true, if_false]
    exact hK st o2 _ h hi hx
  | succ n ih =>
    intro s st o2 he h hi hl hx hK
    unfold whlN
    refine hc _ _ _ _ _ _ h.line ⟨_, rfl, ?_⟩
    by_cases hlt : s.2.2 < s.2.1.length
    · have : s.2.2 < (s.2.1.map ePl).length := by rw [List.length_map]; exact hlt
      simp only [this, decide_true, if_true]
      have hq : s.2.1[s.2.2]? = some s.2.1[s.2.2] := List.getElem?_eq_getElem hlt
      have hqk : s.2.1[s.2.2] ∈ ks := hl 0 _ (List.getElem_mem hlt)
      have es : stepS (usF us) (stp S) s = (((usF us s.2.1[s.2.2]).foldl (turnS (stp S)) (s.1, s.2.1)).1, ((usF us s.2.1[s.2.2]).foldl (turnS (stp S)) (s.1, s.2.1)).2, s.2.2 + 1) := by unfold stepS; rw [hq]
      refine settle_4 R k hus h hi hq hqk fun o2 st' h1 i1 x1 => ?_
      have := ih (stepS (usF us) (stp S) s) st' o2 he (by rw [es]; exact h1) (by rw [es]; exact i1) (fun m => hl (m + 1)) (hx.trans x1) hK
      rw [es] at this
      exact this
    · have : ¬ s.2.2 < (s.2.1.map ePl).length := by rw [List.length_map]; exact hlt
      simp only [this, decide_false, Bool.false_eq_true, if_false]
      have e := runS_fix (us := usF us) (steps := stp S) (s := s) (by omega) (n + 1)
      rw [e] at hK
      exact hK st o2 _ h hi hx
theorem stp_of {S : List (Pl × List St3)} {p : Pl} {x : C2 × List Pl} (h : x ∈ stp S p) : ∃ l s, (p, l) ∈ S ∧ s ∈ l ∧ s.2 = x := by
  unfold stp at h
  obtain ⟨s, hs, rfl⟩ := List.mem_map.mp h
  cases g : getA S p with
  | none => rw [g] at hs; cases hs
  | some l => rw [g] at hs; exact ⟨l, s, getA_some g, hs, rfl⟩
/-- the places of the start of the line -/
def line0 (L : Tbl Pl) : List Pl := (L.map (·.1)).filter fun p => decide (val L p = some (0, 0))
theorem UAt.start {st : Store} {ua : Addr} {ep : Nat} (h : st ua = none) : UAt st (st.set ua (.dct [] ep)) ua [] := ⟨Ext.new h, h, ⟨ep, Store.set_same⟩, fun e he => (by cases he), List.nodup_nil, List.nodup_nil⟩
theorem UOk.start {ks : List Pl} : UOk ks [] := ⟨fun q hq => (by cases hq), fun e he => (by cases he)⟩
def sp_settle : Spec := fun ds st P _ => ∃ a sa la w g el S L goal I, ds = [.loc a] ∧ BestO st a sa la w g el S L ∧ Fit S L ∧ (L.map (·.1)).Nodup ∧ L.length < 1000000 ∧ Keeps S (L.map (·.1)) I ∧ I (L, line0 L) ∧
  (∀ e ∈ S, (endsOf e.2).length ≤ sizeLine) ∧ (∀ p ∈ L.map (·.1), goal p → val L p = some (0, 0)) ∧ (∀ p, ¬ (p ∈ L.map (·.1) ∧ goal p) → val L p = none) ∧
  ∀ st' L', BestO st' a sa la w g el S L' → L'.map (·.1) = L.map (·.1) → (∀ p ∈ L.map (·.1), IsLst (Win goal (stp S) p) (val L' p)) → (∃ line, I (L', line)) → ExtB la st st' → P .non st'
theorem d_settle (R : Rds Γ) : Does Γ 9 1 b_Best_settle sp_settle := by
  rintro ds st P ⟨a, sa, la, w, g, el, S, L, goal, I, rfl, hb, hf, hnd, hlen, k, hi, hends, hg1, hg2, hP⟩
  refine ⟨rfl, ?_⟩
  generalize hks : L.map (·.1) = ks at *
  have hkl : ks.length < 1000000 := by rw [← hks, List.length_map]; exact hlen
  have hok : ∀ p ∈ ks, OkP p := fun p hp => hf.ok p (by rw [hks]; exact hp)
  have hSn : (S.map (·.1)).Nodup := by rw [hf.keys, hks]; exact hnd
  obtain ⟨eps, hs1⟩ := hb.steps
  obtain ⟨epl, hl1⟩ := hb.least
  -- the plain part
  have ne : ∀ p, ∀ s ∈ stp S p, s.2 ≠ [] := fun p x hx => by
    obtain ⟨l, s, h1, h2, rfl⟩ := stp_of hx
    exact ((hf.ends p l h1).2 s h2).1
  have pos : ∀ p, ∀ s ∈ stp S p, 1 ≤ s.1.2 := fun p x hx => by
    obtain ⟨l, s, h1, h2, rfl⟩ := stp_of hx
    exact ((hf.ends p l h1).2 s h2).2.2.1
  have closed : ∀ p, p ∈ ks → ∀ s ∈ stp S p, ∀ q ∈ s.2, q ∈ ks := fun p _ x hx q hq => by
    obtain ⟨l, s, h1, h2, rfl⟩ := stp_of hx
    have := ((hf.ends p l h1).2 s h2).2.2.2.2 q hq
    rwa [hks] at this
  unfold b_Best_settle startE
  rw [denSs, denS]
  simp only [den, denP, asg, List.map_cons, List.map_nil, List.cons_append, List.nil_append, List.length_cons, List.length_nil, List.replicate, Nat.reduceAdd, Nat.reduceSub, List.set_cons_zero, List.set_cons_succ]
  intro ep ua hua
  rw [denSs, denS]
  simp only [denI, den, List.getElem?_cons_zero]
  have x0 : Ext st (st.set ua (.dct [] ep)) := Ext.new hua
  have hb0 := hb.ext x0
  refine ⟨_, _, _, hb0.ins, R.steps, rfl, .inr ⟨sa, _, eps, rfl, x0 _ _ hs1, ?_⟩⟩
  refine forL_inv (fun i ρ st' => ∃ u o2 o3 o4 o7 o8, ρ = [some (.loc a), some (.loc ua), o2, o3, o4, none, none, o7, o8] ∧ UAt st st' ua u ∧ UOk ks u ∧ ∀ p q, p ∈ usOf u q ↔ ∃ l, (p, l) ∈ S.take i ∧ q ∈ endsOf l) _ 0 _ _
    ⟨[], _, _, _, _, _, rfl, UAt.start hua, UOk.start, fun p q => by simp [usOf, getA]⟩ ?_ ?_ ?_
  · rintro i d ρ st1 N hj ⟨u, o2, o3, o4, o7, o8, rfl, h1, h2, h3⟩ hN
    rw [Nat.zero_add] at h3 hN
    unfold eKV at hj
    rw [List.map_map, List.getElem?_map, Option.map_eq_some_iff] at hj
    obtain ⟨⟨p, l⟩, hj, rfl⟩ := hj
    have hm := List.mem_of_getElem? hj
    have hpk : p ∈ ks := by rw [← hks, ← hf.keys]; exact List.mem_map.mpr ⟨_, hm, rfl⟩
    simp only [Function.comp, asg, asgs, List.set_cons_zero, List.set_cons_succ]
    refine settle_2 h1 h2 hok hkl hpk (fun s hs q hq => ?_) (hends _ hm) fun u' o4 o7 o8 st' h4 h5 h6 => ?_
    · have := ((hf.ends p l hm).2 s hs).2.2.2.2 q hq
      rwa [hks] at this
    · refine hN _ _ ⟨_, _, _, _, _, _, rfl, h4, h5, fun p' q' => ?_⟩
      have e : S.take (i + 1) = S.take i ++ [(p, l)] := by rw [List.take_add_one, hj]; rfl
      rw [h6, h3, e]
      constructor
      · rintro (⟨l', a1, a2⟩ | ⟨rfl, a2⟩)
        · exact ⟨l', List.mem_append_left _ a1, a2⟩
        · exact ⟨l, List.mem_append_right _ List.mem_cons_self, a2⟩
      · rintro ⟨l', a1, a2⟩
        rcases List.mem_append.mp a1 with z | z
        · exact .inl ⟨l', z, a2⟩
        · cases List.mem_singleton.mp z; exact .inr ⟨rfl, a2⟩
  · rintro ρ st1 ⟨u, o2, o3, o4, o7, o8, rfl, h1, h2, h3⟩
    have eSl : ((eKV ePl eSts S).map (fun p => D.pr p.1 p.2)).length = S.length := by rw [List.length_map, eKV_len]
    rw [Nat.zero_add, eSl, List.take_length] at h3
    have hb1 := hb.ext h1.ext
    have hl2 := h1.ext _ _ hl1
    show denSs Γ X0 _ _ _ _
    rw [denSs, denS]
    simp only [denEs, den, denP, denI, List.getElem?_cons_zero, List.getElem?_cons_succ]
    refine ⟨_, _, _, hb1.ins, R.least, rfl, .inr ⟨la, _, epl, rfl, hl2, ?_⟩⟩
    have ek : (eKV ePl eO L).map (fun p => p.1) = ks.map ePl := by unfold eKV; rw [List.map_map, ← hks, List.map_map]; rfl
    rw [ek]
    have hlen2 : ([] : List D).length + (ks.map ePl).length ≤ sizeLine := by
      rw [List.length_nil, List.length_map]
      have : (1000000 : Nat) < sizeLine := by decide
      omega
    refine turns_filter (c := fun d => (vof L d).eqv (eO (some (0, 0)))) (g := id) _ [] hlen2 (fun d hd kk q1 q2 => ?_) ?_ hl2
    · obtain ⟨p, hp, rfl⟩ := List.mem_map.mp hd
      simp only [asg, wipeE, List.set_cons_zero, List.set_cons_succ, List.getElem?_cons_zero, List.getElem?_cons_succ]
      refine ⟨_, _, _, hb1.ins, R.least, rfl, idx_e ePl_eqv hl2 (key_pl (hok p hp)) (getA_val (by rw [hks]; exact hp)) ?_⟩
      rw [R.nought]
      simp only
      rw [nought_e]
      refine eq_ev ⟨_, rfl, ?_⟩
      simp only [vof_pl, eO_eqv] at q1 q2
      by_cases hv : val L p = some (0, 0)
      · simp only [hv, decide_true, if_true] at q1 ⊢
        exact q1 trivial
      · simp only [hv, decide_false, Bool.false_eq_true, if_false] at q2 ⊢
        exact q2 trivial
    · rw [List.nil_append, List.map_id]
      have e0 : (ks.map ePl).filter (fun d => (vof L d).eqv (eO (some (0, 0)))) = (line0 L).map ePl := by
        unfold line0
        rw [hks, List.filter_map]
        congr 1
        refine List.filter_congr fun p _ => ?_
        simp only [Function.comp, vof_pl, eO_eqv]
      rw [e0]
      intro ln hln
      refine ⟨rfl, ?_⟩
      -- the line is laid
      have nln : st ln = none := by
        cases z : st ln with
        | none => rfl
        | some o => rw [h1.ext _ _ z] at hln; cases hln
      have hU := h1.junk (c := ln) (o := .lst ((line0 L).map ePl)) hln
      generalize hst2 : st1.set ln (.lst ((line0 L).map ePl)) = st2 at *
      have hln2 : st2 ln = some (.lst ((line0 L).map ePl)) := by rw [← hst2]; exact Store.set_same
      -- users frozen
      rw [denSs, denS]
      simp only [setAll, List.getElem?_cons_zero, List.getElem?_cons_succ, List.set_cons_zero, List.set_cons_succ]
      obtain ⟨epu, hu1⟩ := hU.at_
      have fzk : ∀ v : UL, (∀ e ∈ v, ∃ ep, st2 e.2.1 = some (.dct (eT e.2.2) ep)) → (∀ e ∈ v, (if e.2.1 = ua ∨ e.2.1 ∈ u.map (·.2.1) then none else st2 e.2.1 : Option Ob) = none) →
          Fzk st2 (fun b => if b = ua ∨ b ∈ u.map (·.2.1) then none else st2 b) (eKV ePl eLoc v) (eKV ePl (fun ps => D.dct (eT ps)) (usl v)) := by
        intro v
        induction v with
        | nil => intro _ _; exact .nil
        | cons e v ih =>
          intro ha hb
          obtain ⟨ep', hep⟩ := ha e List.mem_cons_self
          refine .cons (.dct hep (hb e List.mem_cons_self) ?_) (ih (fun e' he' => ha e' (List.mem_cons_of_mem _ he')) fun e' he' => hb e' (List.mem_cons_of_mem _ he'))
          unfold eT eKs
          generalize e.2.2 = ps
          induction ps with
          | nil => exact .nil
          | cons p ps ih2 => exact .cons (.refl _) ih2
      refine ⟨fun b => if b = ua ∨ b ∈ u.map (·.2.1) then none else st2 b, eUs (usl u), fun b o e => ?_, .dct hu1 (if_pos (.inl rfl)) (fzk u (fun e he => (hU.in_ e he).2.2) fun e he => if_pos (.inr (List.mem_map.mpr ⟨e, he, rfl⟩))), ?_⟩
      · simp only at e
        split at e
        · cases e
        · exact e
      generalize hst3 : (fun b => if b = ua ∨ b ∈ u.map (·.2.1) then none else st2 b : Store) = st3
      have old : ∀ b o, st2 b = some o → st b = some o ∨ b = ln → st3 b = some o := by
        intro b o e hb'
        rw [← hst3]
        simp only
        rw [if_neg]
        · exact e
        · rintro (z | z)
          · rcases hb' with q | q
            · rw [z, hU.new] at q; cases q
            · rw [z] at q; rw [q, hln2] at hu1; cases hu1
          · obtain ⟨e', he', z⟩ := List.mem_map.mp z
            obtain ⟨i1, i2, e3, i3⟩ := hU.in_ e' he'
            rcases hb' with q | q
            · rw [← z, i1] at q; cases q
            · rw [z, q, hln2] at i3; cases i3
      have x3 : Ext st st3 := fun b o e => old b o (hU.ext b o e) (.inl e)
      have hb3 := hb.ext x3
      have hln3 : st3 ln = some (.lst ((line0 L).map ePl)) := old ln _ hln2 (.inr rfl)
      have hW : WAt st3 a sa la ln w g el S (L, line0 L) := ⟨hb3, hln3⟩
      have husr : ∀ p q, p ∈ usF (usl u) q ↔ p ∈ ks ∧ Succ (stp S) p q := by
        intro p q
        rw [usF_usl, h3]
        constructor
        · rintro ⟨l, hm, hq⟩
          refine ⟨by rw [← hks, ← hf.keys]; exact List.mem_map.mpr ⟨_, hm, rfl⟩, ?_⟩
          obtain ⟨s, hs, hq⟩ := mem_endsOf.mp hq
          refine ⟨s.2, ?_, hq⟩
          unfold stp
          rw [(getA_iff hSn).mp hm]
          exact List.mem_map.mpr ⟨s, hs, rfl⟩
        · rintro ⟨_, x, hx, hq⟩
          obtain ⟨l, s, a1, a2, rfl⟩ := stp_of hx
          exact ⟨l, a1, mem_endsOf.mpr ⟨s, a2, hq⟩⟩
      have hU' : Users (fun p => p ∈ ks) (stp S) (usF (usl u)) := fun p q _ => husr p q
      have hm0 : Mid (fun p => p ∈ ks) goal ks (stp S) L (line0 L) 0 [] := Mid.start ne closed hks hg1 hg2 fun p => by
        unfold line0
        rw [hks, List.mem_filter]
        simp only [decide_eq_true_eq]
        constructor
        · rintro ⟨a1, a2⟩
          refine ⟨a1, ?_⟩
          by_cases gp : goal p
          · exact gp
          · rw [hg2 p fun z => gp z.2] at a2; cases a2
        · rintro ⟨a1, a2⟩
          exact ⟨a1, hg1 p a1 a2⟩
      obtain ⟨n, hn⟩ := run_ends ne pos (fun p => Iff.rfl) hU' (L, line0 L, 0) hm0
      rw [denSs, denS]
      refine ⟨n + 1, ?_⟩
      refine settle_while R k (fun q hq p hp => ((husr p q).mp hp).1) (st0 := st3) (fun o1 o2 st n xs Q hxs hQ => by
        try simp only [denSs, denS, den, denB, denP, denI, denEs, denO, asg, asgs, wipeE, items1, eS, List.map_cons, List.map_nil, List.cons_append, List.nil_append, List.length_cons, List.length_nil, List.replicate, Nat.add_zero, Nat.zero_add, Nat.reduceAdd, Nat.reduceSub, List.getElem?_cons_zero, List.getElem?_cons_succ, List.set_cons_zero, List.set_cons_succ, if_true, if_false, Bool.false_eq_true, reduceCtorEq]
        refine .inl ⟨_, by show (match st ln with | some (.lst xs) => some xs | _ => none) = _; rw [hxs], lt_ev ?_⟩
        have : decide ((n : Int) < (xs.length : Int)) = decide (n < xs.length) := by simp
        rw [this]
        exact hQ) n (L, line0 L, 0) st3 o2 hn hW hi (fun m q hq => (Mid.run (dom := fun p => p ∈ ks) ne pos (fun p => Iff.rfl) hU' m (L, line0 L, 0) hm0).lineIn q hq) (Ext2.refl _) fun st' o2 n' hW' hI' x' => ?_
      simp only [denSs]
      have fin := Mid.run (dom := fun p => p ∈ ks) ne pos (fun p => Iff.rfl) hU' n (L, line0 L, 0) hm0
      refine hP st' _ hW'.best fin.keys (fun p hp => fin.least ne closed hn p hp) ⟨_, hI'⟩ fun b o hbl e => ?_
      exact x' b o hbl (fun z => by rw [z, nln] at e; cases e) (x3 b o e)
  · rintro i ρ st1 ⟨u, o2, o3, o4, o7, o8, rfl, h1, h2, h3⟩
    exact h1.ext _ _ hs1
end G
/-! Best: its steps, its start; the least costs. -/
namespace G
open PySem PySem.Spec PyProof.Rows L2
variable {Γ : Ctx}
abbrev Eld := Option (List (Pl × Str))
def othF (el : Eld) (p : Pl) (n : Str) : Nat := match el with
  | none => 0
  | some l => if (getA l p).getD "" = n then 0 else 1
def stepsF (w : Wr) (el : Eld) (p : Pl) : List St3 := (ableF w p).map fun d => (d.name, (othF el p d.name, d.cost), leadsF w p d)
/-- the steps of a world's places -/
def gstep (w : Wr) (el : Eld) : Stp Pl := fun p => (stepsF w el p).map (·.2)
structure OkEl (el : Eld) : Prop where
  ok : ∀ l, el = some l → ∀ e ∈ l, PyData.strOk e.2 = true
theorem str_empty : PyData.strOk ("" : Str) = true := by decide +kernel
theorem OkEl.get {el : Eld} {l : List (Pl × Str)} (h : OkEl el) (e : el = some l) (p : Pl) : PyData.strOk ((getA l p).getD "") = true := by
  cases g : getA l p with
  | none => exact str_empty
  | some x => exact h.ok l e _ (getA_some g)
theorem ne_str {st : Store} {a b : Str} {k : Bool → Prop} (ha : PyData.strOk a = true) (hb : PyData.strOk b = true) (q : k (!decide (a = b))) : cmpR st .NotEq (.str a) (.str b) k :=
  ⟨by simp only [rsv, D.dat]; exact ha, by simp only [rsv, D.dat]; exact hb, by simp only [rsv, D.eqv]; exact q⟩
def sp_steps_of : Spec := fun ds st P _ => ∃ a sa la w g el S L S' M' p, ds = [.loc a, ePl p] ∧ BestO st a sa la w g el S L ∧ WfW w ∧ OkEl el ∧ PlIn w.facts S' M' p ∧ ∀ st', Ext st st' → P (eSts (stepsF w el p)) st'
theorem take_filter {α β : Type} {l : List α} {i : Nat} {a : α} (c : α → Bool) (f : α → β) (h : l[i]? = some a) : ((l.take (i + 1)).filter c).map f = ((l.take i).filter c).map f ++ if c a = true then [f a] else [] := by
  have e : l.take (i + 1) = l.take i ++ [a] := by rw [List.take_add_one, h]; rfl
  rw [e, List.filter_append, List.map_append]
  by_cases hc : c a = true <;> simp [hc]
theorem d_steps_of (hw1 : Γ.cf "Best" "world" = true) (hw2 : Γ.cf "Best" "elder" = true) (h1 : Γ.fn "holds" = some sp_holds) (h2 : Γ.fn "leads_of" = some sp_leads_of) : Does Γ 5 2 b_Best_steps_of sp_steps_of := by
  rintro ds st P ⟨a, sa, la, w, g, el, S, L, S', M', p, rfl, hb, hw, hel, hp, hP⟩
  refine ⟨rfl, ?_⟩
  have hokp : OkP p := hw.okS.sub hp.st
  have epl : ePl p = .tup [eS p.st, .int p.s, .int p.m] := rfl
  unfold b_Best_steps_of startE
  try simp only [denSs, denS, den, denB, denP, denI, denEs, denO, asg, asgs, wipeE, items1, eS, List.map_cons, List.map_nil, List.cons_append, List.nil_append, List.length_cons, List.length_nil, List.replicate, Nat.add_zero, Nat.zero_add, Nat.reduceAdd, Nat.reduceSub, List.getElem?_cons_zero, List.getElem?_cons_succ, List.set_cons_zero, List.set_cons_succ, if_true, if_false, Bool.false_eq_true, reduceCtorEq]
  refine ⟨Nat.zero_le _, fun f hf0 => ?_⟩
  have x0 : Ext st (st.set f (.lst [])) := Ext.new hf0
  refine ⟨_, _, _, (hb.ext x0).ins, hw1, rfl, ix_tup1 ?_⟩
  simp only
  refine forL_inv (fun i ρ st' => ∃ o3 o4, ρ = [some (.loc a), some (ePl p), some (.loc f), o3, o4] ∧ Ext st st' ∧ st' f = some (.lst ((((w.deeds.take i).filter fun d => holdsB d.cond p.st).map fun d => ((d.name, (othF el p d.name, d.cost), leadsF w p d) : St3)).map eSt))) _ 0 _ _
    ⟨none, none, rfl, x0, Store.set_same⟩ ?_ ?_
  · rintro i d ρ st1 N hi ⟨o3, o4, rfl, hx, hf⟩ hN
    rw [Nat.zero_add] at hf hN
    rw [List.getElem?_map, Option.map_eq_some_iff] at hi
    obtain ⟨d, hi, rfl⟩ := hi
    have hd := hw.deeds d (List.mem_of_getElem? hi)
    have hb1 := hb.ext hx
    have tf := take_filter (fun d : Dd => holdsB d.cond p.st) (fun d => ((d.name, (othF el p d.name, d.cost), leadsF w p d) : St3)) hi
    have hlen : (((w.deeds.take i).filter fun d => holdsB d.cond p.st).map fun d => ((d.name, (othF el p d.name, d.cost), leadsF w p d) : St3)).length ≤ 100 := by
      rw [List.length_map]
      refine Nat.le_trans (List.length_filter_le _ _) ?_
      rw [List.length_take]
      have := hw.manyD
      omega
    have hds : eDd d = .tup [.str d.name, .int d.cost, eP d.cond, .tup (d.chs.map eP)] := rfl
    unfold b_Best_steps_of_1
    try simp only [denSs, denS, den, denB, denP, denI, denEs, denO, asg, asgs, wipeE, items1, eS, List.map_cons, List.map_nil, List.cons_append, List.nil_append, List.length_cons, List.length_nil, List.replicate, Nat.add_zero, Nat.zero_add, Nat.reduceAdd, Nat.reduceSub, List.getElem?_cons_zero, List.getElem?_cons_succ, List.set_cons_zero, List.set_cons_succ, if_true, if_false, Bool.false_eq_true, reduceCtorEq]
    rw [hds]
    refine ix_tup2 ?_
    rw [epl]
    refine ix_tup0 ?_
    rw [h1]
    refine holds_call hw.okS hp.st hd.cond ⟨_, rfl, ?_⟩
    rw [← hds, ← epl]
    cases hh : holdsB d.cond p.st with
    | false =>
      simp only [Bool.false_eq_true, if_false]
      refine hN _ _ ⟨_, _, rfl, hx, ?_⟩
      rw [tf, hh]
      simpa using hf
    | true =>
      simp only [if_true]
      -- otherwise
      have rest : ∀ k : Nat, k = othF el p d.name → (∃ (xs : Addr) (zs : List D), D.loc f = .loc xs ∧ st1 xs = some (.lst zs) ∧ idxR st1 (eDd d) (.int 0) fun z => idxR st1 (eDd d) (.int 1) fun z_1 => 2 ≤ sizeLine ∧ ∃ c fs dd, insOf st1 (.loc a) = some (c, fs) ∧ Γ.cf c "world" = true ∧ fs.lookup ("world" : Str) = some dd ∧
          match Γ.fn "leads_of" with
          | some sp => sp [dd, ePl p, eDd d] st1 (fun d_1 st1_1 => 3 ≤ sizeLine ∧ ∃ ys, st1_1 xs = some (.lst ys) ∧ ys.length < sizeLine ∧ N [some (.loc a), some (ePl p), some (.loc f), some (eDd d), some (.int k)] (st1_1.set xs (.lst (ys ++ [.tup [z, .tup [.int k, z_1], d_1]])))) X0
          | none => False) := by
        intro k hk
        refine ⟨f, _, rfl, hf, ?_⟩
        rw [hds]
        refine ix_tup0 (ix_tup1 ⟨(by decide : 2 ≤ sizeLine), _, _, _, hb1.ins, hw1, rfl, ?_⟩)
        rw [h2, ← hds]
        refine ⟨w, p, d, S', M', rfl, hw, hd, hp, fun st2 x2 => ⟨(by decide : 3 ≤ sizeLine), _, x2 _ _ hf, ?_, ?_⟩⟩
        · rw [List.length_map]
          have : (100 : Nat) < sizeLine := by decide
          omega
        · refine hN _ _ ⟨_, _, rfl, (hx.trans x2).bump hf0, ?_⟩
          rw [Store.set_same, tf, hh, hk]
          simp only [if_true, List.map_append, List.map_cons, List.map_nil]
          rfl
      refine ⟨_, _, _, hb1.ins, hw2, rfl, is_ev ⟨_, rfl, ?_⟩⟩
      cases el with
      | none =>
        simp only [eEl, if_true]
        exact rest 0 rfl
      | some l =>
        simp only [eEl, Bool.false_eq_true, if_false]
        refine ⟨_, _, _, hb1.ins, hw2, rfl, _, rfl, _, rfl, key_pl hokp, ?_⟩
        have elk : (look (eKV ePl D.str l) (ePl p)).getD (.str "") = .str ((getA l p).getD "") := by
          rw [look_e ePl_eqv]
          cases getA l p <;> rfl
        rw [elk, hds]
        refine ix_tup0 (ne_str (hel.get rfl p) hd.name ?_)
        rw [← hds]
        refine .inr ⟨_, rfl, ?_⟩
        have ek : (if (!decide ((getA l p).getD "" = d.name)) = true then (1 : Int) else 0) = ((othF (some l) p d.name : Nat) : Int) := by
          unfold othF
          by_cases z : (getA l p).getD "" = d.name <;> simp [z]
        rw [ek]
        exact rest _ rfl
  · rintro ρ st1 ⟨o3, o4, rfl, hx, hf⟩
    rw [Nat.zero_add, List.length_map, List.take_length] at hf
    simp only [List.getElem?_cons_zero, List.getElem?_cons_succ]
    refine ⟨fun b => if b = f then none else st1 b, eSts (stepsF w el p), fun b o e => ?_, .loc hf (if_pos rfl) ?_, ?_⟩
    · simp only at e
      split at e
      · cases e
      · exact e
    · unfold stepsF ableF
      generalize ((w.deeds.filter fun d => holdsB d.cond p.st).map fun d => ((d.name, (othF el p d.name, d.cost), leadsF w p d) : St3)).map eSt = xs
      induction xs with
      | nil => exact .nil
      | cons x xs ih => exact .cons (.refl _) ih
    · refine hP _ fun b o e => ?_
      show (if b = f then none else st1 b) = some o
      rw [if_neg (fun z => by rw [z, hf0] at e; cases e)]
      exact hx b o e
end G
/-! Best: its start; the least costs. -/
namespace G
open PySem PySem.Spec PyProof.Rows L2
variable {Γ : Ctx}
def tab {α β : Type} (f : α → β) (l : List α) : List (α × β) := l.map fun a => (a, f a)
theorem tab_keys {α β : Type} (f : α → β) (l : List α) : (tab f l).map (·.1) = l := by unfold tab; rw [List.map_map]; exact List.map_id l
theorem getA_tab {α β : Type} [DecidableEq α] (f : α → β) (l : List α) (a : α) : getA (tab f l) a = if a ∈ l then some (f a) else none := by
  induction l with
  | nil => rfl
  | cons b l ih =>
    unfold getA tab at ih ⊢
    rw [List.map_cons, List.find?_cons]
    by_cases h : b = a
    · subst h; simp
    · have h' : ¬ a = b := fun z => h z.symm
      simp only [h, decide_false, List.mem_cons, h', false_or]; exact ih
theorem put_tab {α β : Type} [DecidableEq α] {f : α → β} {l : List α} {i : Nat} {a : α} (n : l.Nodup) (h : l[i]? = some a) : putA (tab f (l.take i)) a (f a) = tab f (l.take (i + 1)) := by
  have hn : a ∉ l.take i := fun z => by
    obtain ⟨j, hj⟩ := List.mem_iff_getElem?.mp z
    have hji : j < i := by
      rcases Nat.lt_or_ge j i with q | q
      · exact q
      · rw [List.getElem?_eq_none (by rw [List.length_take]; omega)] at hj; cases hj
    rw [List.getElem?_take_of_lt hji] at hj
    have hjl : j < l.length := (List.getElem?_eq_some_iff.mp hj).1
    have := (List.getElem?_inj hjl n).mp (hj.trans h.symm)
    omega
  have e : l.take (i + 1) = l.take i ++ [a] := by rw [List.take_add_one, h]; rfl
  rw [putA_none (by rw [getA_tab, if_neg hn]), e]
  unfold tab
  rw [List.map_append]; rfl
abbrev Stab (w : Wr) (el : Eld) (ps : List Pl) : List (Pl × List St3) := tab (stepsF w el) ps
abbrev Ltab (g : Pr) (ps : List Pl) : Tbl Pl := tab (fun p => if holdsB g p.st = true then some (0, 0) else none) ps
theorem stp_tab {w : Wr} {el : Eld} {ps : List Pl} {p : Pl} (h : p ∈ ps) : stp (Stab w el ps) p = gstep w el p := by
  unfold stp gstep
  rw [getA_tab, if_pos h]; rfl
theorem val_tab {g : Pr} {ps : List Pl} {p : Pl} : val (Ltab g ps) p = if p ∈ ps ∧ holdsB g p.st = true then some (0, 0) else none := by
  unfold val
  rw [getA_tab]
  by_cases h : p ∈ ps <;> by_cases k : holdsB g p.st = true <;> simp [h, k]
theorem leads_len {w : Wr} {p : Pl} {d : Dd} (h1 : d.chs.length ≤ 100) (h2 : w.meds.length ≤ 100) : (leadsF w p d).length ≤ 10201 := by
  unfold leadsF
  rw [srt_len]
  have h3 := ends0_len (p := p) (chs := d.chs)
  split
  · omega
  · refine Nat.le_trans (fold_med_len _ _) ?_
    have := Nat.mul_le_mul (show (ends0 p d.chs).length ≤ 101 by omega) h2
    omega
theorem stepsF_len {w : Wr} (hw : WfW w) {el : Eld} {p : Pl} : (stepsF w el p).length ≤ 100 := by
  unfold stepsF ableF
  rw [List.length_map]
  exact Nat.le_trans (List.length_filter_le _ _) hw.manyD
theorem mem_steps {w : Wr} {el : Eld} {p : Pl} {s : St3} (h : s ∈ stepsF w el p) : ∃ d ∈ w.deeds, holdsB d.cond p.st = true ∧ s = (d.name, (othF el p d.name, d.cost), leadsF w p d) := by
  unfold stepsF ableF at h
  obtain ⟨d, hd, rfl⟩ := List.mem_map.mp h
  rw [List.mem_filter] at hd
  exact ⟨d, hd.1, hd.2, rfl⟩
theorem fit_tab {w : Wr} (hw : WfW w) {el : Eld} {S M : Nat} {L : Tbl Pl} (hL : L.map (·.1) = placesF w S M) : Fit (Stab w el (placesF w S M)) L := by
  refine ⟨by rw [tab_keys, hL], fun p hp => ?_, fun p l hm => ?_⟩
  · rw [hL] at hp
    exact hw.okS.sub (mem_places.mp hp).st
  · obtain ⟨p', hp', e⟩ := List.mem_map.mp hm
    cases e
    have hpi := mem_places.mp hp'
    refine ⟨Nat.le_trans (stepsF_len hw) (by decide), fun s hs => ?_⟩
    obtain ⟨d, hd, _, rfl⟩ := mem_steps hs
    have hwd := hw.deeds d hd
    refine ⟨leads_ne hwd.ne, Nat.le_trans (leads_len hwd.many hw.manyM) (by decide), hwd.cost, hwd.name, fun q hq => ?_⟩
    rw [hL]
    exact mem_places.mpr (leads_in hw hpi hwd hq)
theorem ends_tab {w : Wr} (hw : WfW w) {el : Eld} {ps : List Pl} : ∀ e ∈ Stab w el ps, (endsOf e.2).length ≤ sizeLine := fun e he => by
  obtain ⟨p, _, rfl⟩ := List.mem_map.mp he
  simp only
  have : ∀ l : List St3, (∀ s ∈ l, s.2.2.length ≤ 10201) → (endsOf l).length ≤ l.length * 10201 := by
    intro l
    unfold endsOf
    induction l with
    | nil => intro _; simp
    | cons s l ih =>
      intro h
      have h1 := h s List.mem_cons_self
      have h2 := ih fun t ht => h t (List.mem_cons_of_mem _ ht)
      rw [List.flatMap_cons, List.length_append, List.length_cons, Nat.succ_mul]
      omega
  refine Nat.le_trans (this _ fun s hs => ?_) ?_
  · obtain ⟨d, hd, _, rfl⟩ := mem_steps hs
    exact leads_len (hw.deeds d hd).many hw.manyM
  · refine Nat.le_trans (Nat.mul_le_mul_right _ (stepsF_len hw)) (by decide)
/-! ### the start -/
def ExtA (x : Addr) (st st' : Store) : Prop := ∀ b o, b ≠ x → st b = some o → st' b = some o
structure IniOk (Γ : Ctx) : Prop where
  rds : Rds Γ
  world : Γ.cf "Best" "world" = true
  goal : Γ.cf "Best" "goal" = true
  elder : Γ.cf "Best" "elder" = true
  holds : Γ.fn "holds" = some sp_holds
  places : Γ.fn "places" = some sp_places
  stepsOf : Γ.me "Best" "steps_of" = some sp_steps_of
  settle : Γ.me "Best" "settle" = some sp_settle
def sp_init : Spec := fun ds st P _ => ∃ a w g el S M I, ds = [.loc a, eW w, eP g, .int (Nat.cast S), .int (Nat.cast M), eEl el] ∧ st a = some (.ins "Best" []) ∧ WfW w ∧ WfPr w.facts g ∧ OkEl el ∧ S ≤ 20 ∧ M ≤ 20 ∧
  Keeps (Stab w el (placesF w S M)) (placesF w S M) I ∧ I (Ltab g (placesF w S M), line0 (Ltab g (placesF w S M))) ∧
  ∀ st' sa la L', BestO st' a sa la w g el (Stab w el (placesF w S M)) L' → L'.map (·.1) = placesF w S M → (∀ p ∈ placesF w S M, IsLst (Win (fun p => holdsB g p.st = true) (stp (Stab w el (placesF w S M))) p) (val L' p)) → (∃ line, I (L', line)) → ExtA a st st' → P .non st'
theorem d_init (k : IniOk Γ) : Does Γ 7 6 b_Best___init__ sp_init := by
  rintro ds st P ⟨a, w, g, el, S, M, I, rfl, ha, hw, hg, hel, hS, hM, hI, hi, hP⟩
  refine ⟨rfl, ?_⟩
  generalize hps : placesF w S M = ps at *
  have hnd : ps.Nodup := by rw [← hps]; exact places_nodup hw.nodup
  have hpl : ps.length ≤ 28224 := by
    rw [← hps, places_len]
    have : 2 ^ w.facts.length ≤ 64 := Nat.pow_le_pow_right (n := 2) (by decide) hw.len
    exact Nat.mul_le_mul this (Nat.mul_le_mul (show S + 1 ≤ 21 by omega) (show M + 1 ≤ 21 by omega))
  have big : (28224 : Nat) < sizeLine := by decide
  unfold b_Best___init__ startE
  rw [denSs, denS]
  simp only [den, List.map_cons, List.map_nil, List.cons_append, List.nil_append, List.length_cons, List.length_nil, List.replicate, Nat.reduceAdd, Nat.reduceSub, List.getElem?_cons_zero, List.getElem?_cons_succ]
  refine ⟨a, _, _, rfl, ha, k.world, (by decide : 0 < 100), ?_⟩
  rw [denSs, denS]
  simp only [den, List.getElem?_cons_zero, List.getElem?_cons_succ]
  refine ⟨a, _, _, rfl, Store.set_same, k.goal, (by decide : 1 < 100), ?_⟩
  rw [denSs, denS]
  simp only [den, List.getElem?_cons_zero, List.getElem?_cons_succ]
  refine ⟨a, _, _, rfl, Store.set_same, k.elder, (by decide : 2 < 100), ?_⟩
  rw [denSs, denS]
  simp only [den, denP, List.getElem?_cons_zero, List.getElem?_cons_succ]
  have set2 : ∀ (s : Store) (o o' : Ob), (s.set a o).set a o' = s.set a o' := fun s o o' => by
    funext b
    unfold Store.set
    by_cases e : b = a <;> simp [e]
  rw [set2, set2]
  intro ep1 sa hsa
  have nsa : sa ≠ a := fun z => by rw [z, Store.set_same] at hsa; cases hsa
  have hsa0 : st sa = none := by rw [set_ne nsa] at hsa; exact hsa
  refine ⟨a, _, [("world", eW w), ("goal", eP g), ("elder", eEl el)], rfl, by rw [set_ne (Ne.symm nsa), Store.set_same]; rfl, k.rds.steps, (by decide : 3 < 100), ?_⟩
  rw [denSs, denS]
  simp only [den, denP, List.getElem?_cons_zero, List.getElem?_cons_succ]
  intro ep2 la hla
  have nla : la ≠ a := fun z => by rw [z, Store.set_same] at hla; cases hla
  have nsl : sa ≠ la := fun z => by rw [← z, set_ne nsa, Store.set_same] at hla; cases hla
  have hla0 : st la = none := by rw [set_ne nla, set_ne (Ne.symm nsl), set_ne nla] at hla; exact hla
  refine ⟨a, _, [("world", eW w), ("goal", eP g), ("elder", eEl el), ("steps", .loc sa)], rfl, by rw [set_ne (Ne.symm nla), Store.set_same]; rfl, k.rds.least, (by decide : 4 < 100), ?_⟩
  rw [denSs, denS]
  simp only [denI, den, denEs, List.getElem?_cons_zero, List.getElem?_cons_succ]
  rw [k.places]
  refine ⟨w, S, M, rfl, hw.okS, hw.len, hS, hM, ?_⟩
  rw [hps]
  simp only [items1]
  -- the objects
  generalize hst1 : Store.set _ a _ = st1
  have hb0 : BestO st1 a sa la w g el (Stab w el (ps.take 0)) (Ltab g (ps.take 0)) := by
    rw [← hst1]
    refine ⟨?_, ⟨ep1, ?_⟩, ⟨ep2, ?_⟩, nsl⟩
    · rw [Store.set_same]; rfl
    · rw [set_ne nsa, set_ne nsl, set_ne nsa, Store.set_same]; rfl
    · rw [set_ne nla, Store.set_same]; rfl
  have hx0 : ExtA a st st1 := fun b o n e => by
    have n1 : b ≠ sa := fun z => by rw [z, hsa0] at e; cases e
    have n2 : b ≠ la := fun z => by rw [z, hla0] at e; cases e
    rw [← hst1, set_ne n, set_ne n2, set_ne n, set_ne n1, set_ne n]
    exact e
  refine forL_inv (fun i ρ st' => ∃ o6, ρ = [some (.loc a), some (eW w), some (eP g), some (.int S), some (.int M), some (eEl el), o6] ∧ BestO st' a sa la w g el (Stab w el (ps.take i)) (Ltab g (ps.take i)) ∧ ExtA a st st') _ 0 _ _ ⟨_, rfl, hb0, hx0⟩ ?_ ?_
  · rintro i d ρ st2 N hj ⟨o6, rfl, hb, hx⟩ hN
    rw [Nat.zero_add] at hb hN
    rw [List.getElem?_map, Option.map_eq_some_iff] at hj
    obtain ⟨p, hj, rfl⟩ := hj
    have hpi : PlIn w.facts S M p := mem_places.mp (by rw [hps]; exact List.mem_of_getElem? hj)
    have hokp : OkP p := hw.okS.sub hpi.st
    obtain ⟨e1, hs1⟩ := hb.steps
    obtain ⟨e2, hl1⟩ := hb.least
    have hti : (ps.take i).length < sizeLine := by rw [List.length_take]; omega
    have epl : ePl p = .tup [eS p.st, .int p.s, .int p.m] := rfl
    simp only [asg, List.set_cons_zero, List.set_cons_succ]
    unfold b_Best___init___1
    rw [denSs, denS]
    simp only [den, denEs, List.getElem?_cons_zero, List.getElem?_cons_succ]
    rw [epl]
    refine ix_tup0 ?_
    rw [← epl, k.holds]
    refine holds_call hw.okS hpi.st hg ⟨_, rfl, ?_⟩
    have go : (∀ st3, BestO st3 a sa la w g el (Stab w el (ps.take i)) (Ltab g (ps.take (i + 1))) → ExtA a st st3 → denSs Γ X0 (.cons (.sto (.att (.var 0) "steps") (.var 6) (.mcl "Best" "steps_of" (.var 0) (.cons (.var 6) .nil))) .nil) { nx := N, rt := P, bk := { nx := fun ρ1 st1 => denSs Γ X0 (.cons (.exp (.mcl "Best" "settle" (.var 0) .nil)) .nil) { nx := fun _ st => P .non st, rt := P } ρ1 st1, rt := P : Kn }.nx, ct := N }
        [some (.loc a), some (eW w), some (eP g), some (.int S), some (.int M), some (eEl el), some (ePl p)] st3) := by
      intro st3 hb3 hx3
      rw [denSs, denS]
      simp only [den, denEs, List.getElem?_cons_zero, List.getElem?_cons_succ]
      refine ⟨_, hb3.ins, rfl, ?_⟩
      rw [k.stepsOf]
      refine ⟨a, sa, la, w, g, el, _, _, S, M, p, rfl, hb3, hw, hel, hpi, fun st4 x4 => ?_⟩
      have hb4 := hb3.ext x4
      obtain ⟨e3, hs3⟩ := hb4.steps
      refine ⟨_, _, _, hb4.ins, k.rds.steps, rfl, sa, _, rfl, hs3, key_pl hokp, by rw [eKV_len]; unfold Stab tab; rw [List.length_map]; exact hti, fun ep => ?_⟩
      rw [put_e (f := eSts) ePl_eqv, put_tab hnd hj]
      simp only [denSs]
      refine hN _ _ ⟨_, rfl, ?_, fun b o n e => ?_⟩
      · obtain ⟨e5, h5⟩ := hb4.least
        refine ⟨by rw [set_ne (Ne.symm nsa)]; exact hb4.at_, ⟨ep, Store.set_same⟩, ⟨e5, by rw [set_ne (Ne.symm nsl)]; exact h5⟩, nsl⟩
      · rw [set_ne (fun z => by rw [z, hsa0] at e; cases e)]
        exact x4 b o (hx3 b o n e)
    have put1 : ∀ ep, BestO (st2.set la (.dct (eKV ePl eO (Ltab g (ps.take (i + 1)))) ep)) a sa la w g el (Stab w el (ps.take i)) (Ltab g (ps.take (i + 1))) := fun ep => hb.set ep
    have x1 : ∀ (o : Ob), ExtA a st (st2.set la o) := fun o b o' n e => by
      rw [set_ne (fun z => by rw [z, hla0] at e; cases e)]
      exact hx b o' n e
    have pt := put_tab (f := fun p : Pl => if holdsB g p.st = true then some ((0, 0) : C2) else none) hnd hj
    have ptd := put_e (e := ePl) (f := eO) ePl_eqv (Ltab g (ps.take i)) p (if holdsB g p.st = true then some (0, 0) else none)
    rw [pt] at ptd
    have hll : (eKV ePl eO (Ltab g (ps.take i))).length < sizeLine := by rw [eKV_len]; unfold Ltab tab; rw [List.length_map]; exact hti
    cases hh : holdsB g p.st with
    | true =>
      simp only [if_true]
      rw [k.rds.nought]
      simp only [hh, if_true] at ptd
      refine ⟨_, _, _, hb.ins, k.rds.least, rfl, la, _, rfl, hl1, key_pl hokp, hll, fun ep => ?_⟩
      rw [nought_e, ptd]
      exact go _ (put1 ep) (x1 _)
    | false =>
      simp only [Bool.false_eq_true, if_false]
      simp only [hh, Bool.false_eq_true, if_false] at ptd
      refine ⟨_, _, _, hb.ins, k.rds.least, rfl, la, _, rfl, hl1, key_pl hokp, hll, fun ep => ?_⟩
      rw [show D.non = eO none from rfl, ptd]
      exact go _ (put1 ep) (x1 _)
  · rintro ρ st2 ⟨o6, rfl, hb, hx⟩
    rw [Nat.zero_add, List.length_map, List.take_length] at hb
    try simp only [denSs, denS, den, denB, denP, denI, denEs, denO, asg, asgs, wipeE, items1, eS, List.map_cons, List.map_nil, List.cons_append, List.nil_append, List.length_cons, List.length_nil, List.replicate, Nat.add_zero, Nat.zero_add, Nat.reduceAdd, Nat.reduceSub, List.getElem?_cons_zero, List.getElem?_cons_succ, List.set_cons_zero, List.set_cons_succ, if_true, if_false, Bool.false_eq_true, reduceCtorEq]
    refine ⟨_, hb.ins, rfl, ?_⟩
    rw [k.settle]
    have hkeys : (Ltab g ps).map (·.1) = ps := tab_keys _ _
    refine ⟨a, sa, la, w, g, el, _, _, fun p => holdsB g p.st = true, I, rfl, hb, ?_, by rw [hkeys]; exact hnd, ?_, by rw [hkeys]; exact hI, hi, ends_tab hw, fun p hp gp => ?_, fun p hn => ?_, fun st' L' hb' hk' hl' hI' hx' => ?_⟩
    · rw [← hps]; exact fit_tab hw (by rw [hps]; exact hkeys)
    · unfold Ltab tab; rw [List.length_map]; omega
    · rw [hkeys] at hp; rw [val_tab, if_pos ⟨hp, gp⟩]
    · rw [hkeys] at hn; rw [val_tab, if_neg hn]
    · rw [hkeys] at hk' hl'
      exact hP st' sa la L' hb' hk' hl' hI' fun b o n e => hx' b o (fun z => by rw [z, hla0] at e; cases e) (hx b o n e)
end G
/-! best_from, least. -/
namespace G
open PySem PySem.Spec PyProof.Rows L2
variable {Γ : Ctx}
theorem Win.congr {α : Type} [DecidableEq α] {goal goal' : α → Prop} {steps steps' : α → List (C2 × List α)} (dom : α → Prop) (closed : ∀ p, dom p → ∀ s ∈ steps p, ∀ q ∈ s.2, dom q) (hg : ∀ p, dom p → goal p → goal' p) (hs : ∀ p, dom p → steps p = steps' p) {p : α} {c : C2} (h : Win goal steps p c) : dom p → Win goal' steps' p c := by
  induction h with
  | goal g => exact fun hd => .goal (hg _ hd g)
  | step a b e ih => exact fun hd => .step (by rw [← hs _ hd]; exact a) (fun q hq => ih q hq (closed _ hd _ a q hq)) e
theorem IsLst.congr {W W' : C2 → Prop} {o : Option C2} (h : IsLst W o) (e : ∀ c, W c ↔ W' c) : IsLst W' o := by
  cases o with
  | none => exact fun c hw => h c ((e c).mpr hw)
  | some c => exact ⟨(e c).mp h.1, fun c' hw => h.2 c' ((e c').mpr hw)⟩
def WinW (w : Wr) (g : Pr) (el : Eld) (p : Pl) (c : C2) : Prop := Win (fun q => holdsB g q.st = true) (gstep w el) p c
/-- the least pair of a world, a goal, a place -/
def LeastW (w : Wr) (g : Pr) (el : Eld) (p : Pl) (o : Option C2) : Prop := IsLst (WinW w g el p) o
theorem gstep_mem {w : Wr} {el : Eld} {p : Pl} {x : C2 × List Pl} : x ∈ gstep w el p ↔ ∃ d ∈ w.deeds, holdsB d.cond p.st = true ∧ x = ((othF el p d.name, d.cost), leadsF w p d) := by
  unfold gstep
  rw [List.mem_map]
  constructor
  · rintro ⟨s, hs, rfl⟩
    obtain ⟨d, hd, h1, rfl⟩ := mem_steps hs
    exact ⟨d, hd, h1, rfl⟩
  · rintro ⟨d, hd, h1, rfl⟩
    refine ⟨(d.name, (othF el p d.name, d.cost), leadsF w p d), ?_, rfl⟩
    unfold stepsF ableF
    exact List.mem_map.mpr ⟨d, List.mem_filter.mpr ⟨hd, h1⟩, rfl⟩
theorem gstep_in {w : Wr} (hw : WfW w) {el : Eld} {S M : Nat} {p : Pl} (hp : p ∈ placesF w S M) : ∀ s ∈ gstep w el p, ∀ q ∈ s.2, q ∈ placesF w S M := fun s hs q hq => by
  obtain ⟨d, hd, _, rfl⟩ := gstep_mem.mp hs
  exact mem_places.mpr (leads_in hw (mem_places.mp hp) (hw.deeds d hd) hq)
theorem lst_world {w : Wr} (hw : WfW w) {g : Pr} {el : Eld} {S M : Nat} {p : Pl} (hp : p ∈ placesF w S M) {o : Option C2} (h : IsLst (Win (fun p => holdsB g p.st = true) (stp (Stab w el (placesF w S M))) p) o) : LeastW w g el p o := by
  refine h.congr fun c => ⟨fun hw' => ?_, fun hw' => ?_⟩
  · refine Win.congr (dom := fun p => p ∈ placesF w S M) (fun p hp s hs q hq => ?_) (fun _ _ h => h) (fun p hp => stp_tab hp) hw' hp
    rw [stp_tab hp] at hs
    exact gstep_in hw hp s hs q hq
  · exact Win.congr (dom := fun p => p ∈ placesF w S M) (fun p hp => gstep_in hw hp) (fun _ _ h => h) (fun p hp => (stp_tab hp).symm) hw' hp
/-! ### room for the line -/
/-- costs are at most C, and there are so few places that the line stays short -/
structure Cap (w : Wr) (C S M : Nat) : Prop where
  cost : ∀ d ∈ w.deeds, d.cost ≤ C
  room : (placesF w S M).length + tri C (placesF w S M).length < sizeLine
theorem turn_keys {S : List (Pl × List St3)} {s : Tbl Pl × List Pl} {p : Pl} (hp : p ∈ s.1.map (·.1)) : (turnS (stp S) s p).1.map (·.1) = s.1.map (·.1) := by
  unfold turnS
  split
  · rfl
  · split
    · rw [putA_keys, if_pos hp]
    · rfl
theorem keeps_none {w : Wr} (hw : WfW w) {g : Pr} {C S M : Nat} (cap : Cap w C S M) :
    ∃ I, Keeps (Stab w none (placesF w S M)) (placesF w S M) I ∧ I (Ltab g (placesF w S M), line0 (Ltab g (placesF w S M))) ∧ ∀ L line, I (L, line) → ∀ p ∈ placesF w S M, ∀ c, val L p = some c → c.2 ≤ C * (placesF w S M).length := by
  generalize hps : placesF w S M = ps
  have hnd : ps.Nodup := by rw [← hps]; exact places_nodup hw.nodup
  have hroom : ps.length + tri C ps.length < sizeLine := by rw [← hps]; exact cap.room
  have hkeys : (Ltab g ps).map (·.1) = ps := tab_keys _ _
  have hl0 : (line0 (Ltab g ps)).length ≤ ps.length := by
    unfold line0
    rw [hkeys]
    exact List.length_filter_le _ _
  have hst : ∀ p, ∀ s ∈ stp (Stab w none ps) p, p ∈ ps ∧ s ∈ gstep w none p := fun p s hs => by
    by_cases hp : p ∈ ps
    · rw [stp_tab hp] at hs; exact ⟨hp, hs⟩
    · unfold stp at hs
      rw [getA_tab, if_neg hp] at hs
      cases hs
  refine ⟨fun s => Slim (fun p => holdsB g p.st) ps C (line0 (Ltab g ps)).length s.1 s.2 ∧ s.1.map (·.1) = ps, ⟨fun s p h hp => ⟨?_, ?_⟩, fun s h => h.2, fun s h => ?_, fun s h => ⟨?_, ?_⟩⟩, ⟨⟨fun p c e => ?_, fun p hg hp => ?_, fun p c hp hg e => ?_, ?_⟩, hkeys⟩, fun L line h p hp c e => ?_⟩
  · have h1 := h.1
    obtain ⟨L, line⟩ := s
    refine Slim.turn hnd (fun p x hx => ?_) (fun p x hx => ?_) (fun p hp' x hx q hq => ?_) hp h1
    · obtain ⟨hpp, hx'⟩ := hst p x hx
      obtain ⟨d, hd, _, rfl⟩ := gstep_mem.mp hx'
      exact leads_ne (hw.deeds d hd).ne
    · obtain ⟨hpp, hx'⟩ := hst p x hx
      obtain ⟨d, hd, _, rfl⟩ := gstep_mem.mp hx'
      exact ⟨(hw.deeds d hd).cost, cap.cost d hd, rfl⟩
    · obtain ⟨hpp, hx'⟩ := hst p x hx
      obtain ⟨d, hd, _, rfl⟩ := gstep_mem.mp hx'
      rw [← hps] at hpp ⊢
      exact mem_places.mpr (leads_in hw (mem_places.mp hpp) (hw.deeds d hd) hq)
  · rw [turn_keys (by rw [h.2]; exact hp)]; exact h.2
  · rw [← hps]; exact fit_tab hw (by rw [hps]; exact h.2)
  · have : s.1.length = ps.length := by rw [← h.2, List.length_map]
    omega
  · have := h.1.len
    omega
  · rw [val_tab] at e
    split at e
    · cases e; rfl
    · cases e
  · rw [val_tab, if_pos ⟨hp, hg⟩]
  · rw [val_tab, if_neg (fun z => by rw [hg] at z; cases z.2)] at e
    cases e
  · have : (ps.map (wgt (fun p => holdsB g p.st) (Ltab g ps))).sum = 0 := by
      have : ∀ l : List Pl, (l.map (wgt (fun p => holdsB g p.st) (Ltab g ps))).sum = 0 := by
        intro l
        induction l with
        | nil => rfl
        | cons p l ih =>
          rw [List.map_cons, List.sum_cons, ih]
          unfold wgt
          rw [val_tab]
          split
          · rfl
          · rename_i h
            rw [if_neg (fun z => h z.2)]; rfl
      exact this ps
    rw [this]
    simp only
    omega
  · cases hg : holdsB g p.st with
    | true =>
      have := h.1.nought p hg hp
      rw [e] at this; cases this
      exact Nat.zero_le _
    | false =>
      obtain ⟨X, x1, x2, x3⟩ := h.1.gap p c hp hg e
      have := List.Nodup.length_le_of_subset x1 (l₂ := ps) fun x hx => (x2 x hx).1
      exact Nat.le_trans x3 (Nat.mul_le_mul_left _ this)
/-! ### best_from, least -/
def sp_best_from : Spec := fun ds st P _ => ∃ w g p C, ds = [eW w, eP g, ePl p] ∧ WfW w ∧ WfPr w.facts g ∧ p.st.Sublist w.facts ∧ p.s ≤ 20 ∧ p.m ≤ 20 ∧ Cap w C p.s p.m ∧
  ∀ st' a sa la L', BestO st' a sa la w g none (Stab w none (placesF w p.s p.m)) L' → L'.map (·.1) = placesF w p.s p.m → (∀ q ∈ placesF w p.s p.m, LeastW w g none q (val L' q)) → (∀ q ∈ placesF w p.s p.m, ∀ c, val L' q = some c → c.2 ≤ C * (placesF w p.s p.m).length) → st a = none → Ext st st' → P (.loc a) st'
theorem d_best_from (hi : Γ.me "Best" "__init__" = some sp_init) : Does Γ 3 3 b_best_from sp_best_from := by
  rintro ds st P ⟨w, g, p, C, rfl, hw, hg, hp, hs, hm, cap, hP⟩
  refine ⟨rfl, ?_⟩
  unfold b_best_from startE ePl
  try simp only [denSs, denS, den, denB, denP, denI, denEs, denO, asg, asgs, wipeE, items1, eS, List.map_cons, List.map_nil, List.cons_append, List.nil_append, List.length_cons, List.length_nil, List.replicate, Nat.add_zero, Nat.zero_add, Nat.reduceAdd, Nat.reduceSub, List.getElem?_cons_zero, List.getElem?_cons_succ, List.set_cons_zero, List.set_cons_succ, if_true, if_false, Bool.false_eq_true, reduceCtorEq]
  refine ix_tup1 (ix_tup2 fun a ha => ?_)
  rw [hi]
  obtain ⟨I, k1, k2, k3⟩ := keeps_none hw (g := g) cap
  refine ⟨a, w, g, none, p.s, p.m, I, rfl, Store.set_same, hw, hg, ⟨fun l e => by cases e⟩, hs, hm, k1, k2, fun st' sa la L' hb hk hl ⟨ln, hI⟩ hx => ⟨rfl, ?_⟩⟩
  exact hP st' a sa la L' hb hk (fun q hq => lst_world hw hq (hl q hq)) (k3 _ _ hI) ha fun b o e => hx b o (fun z => by rw [z, ha] at e; cases e) (by rw [set_ne (fun z => by rw [z, ha] at e; cases e)]; exact e)
def eN : Option Nat → D
  | none => .non
  | some n => .int n
def sp_least : Spec := fun ds st P _ => ∃ w g p C, ds = [eW w, eP g, ePl p] ∧ WfW w ∧ WfPr w.facts g ∧ p.st.Sublist w.facts ∧ p.s ≤ 20 ∧ p.m ≤ 20 ∧ Cap w C p.s p.m ∧ ∀ o st', LeastW w g none p o → (∀ c, o = some c → c.2 ≤ C * (placesF w p.s p.m).length) → Ext st st' → P (eN (o.map (·.2))) st'
theorem d_least (hc : Γ.cf "Best" "least" = true) (h1 : Γ.fn "best_from" = some sp_best_from) : Does Γ 4 3 b_least sp_least := by
  rintro ds st P ⟨w, g, p, C, rfl, hw, hg, hp, hs, hm, cap, hP⟩
  refine ⟨rfl, ?_⟩
  unfold b_least startE
  try simp only [denSs, denS, den, denB, denP, denI, denEs, denO, asg, asgs, wipeE, items1, eS, List.map_cons, List.map_nil, List.cons_append, List.nil_append, List.length_cons, List.length_nil, List.replicate, Nat.add_zero, Nat.zero_add, Nat.reduceAdd, Nat.reduceSub, List.getElem?_cons_zero, List.getElem?_cons_succ, List.set_cons_zero, List.set_cons_succ, if_true, if_false, Bool.false_eq_true, reduceCtorEq]
  rw [h1]
  refine ⟨w, g, p, C, rfl, hw, hg, hp, hs, hm, cap, fun st' a sa la L' hb hk hl hbd _ hx => ?_⟩
  have hin : p ∈ placesF w p.s p.m := mem_places.mpr ⟨hp, Nat.le_refl _, Nat.le_refl _⟩
  obtain ⟨ep, hle⟩ := hb.least
  refine ⟨_, _, _, hb.ins, hc, rfl, idx_e ePl_eqv hle (key_pl (hw.okS.sub hp)) (getA_val (by rw [hk]; exact hin)) ?_⟩
  refine is_ev ⟨_, rfl, ?_⟩
  have hv := hl p hin
  cases q : val L' p with
  | none =>
    simp only [eO, if_true]
    rw [q] at hv
    exact hP none st' hv (fun c e => by cases e) hx
  | some c =>
    simp only [eO, eC2, Bool.false_eq_true, if_false]
    rw [q] at hv
    exact ix_tup1 (hP (some c) st' hv (fun c' e => by cases e; exact hbd p hin c q) hx)
end G
/-! Drawn worlds as plain Lean things. -/
namespace G
open PySem PySem.Spec PyProof.Rows L2
def FS : List Str := ["dry", "fed", "lit", "open", "told", "warm"]
def DS : List Str := ["air", "bake", "call", "dig", "eat", "fix", "go", "heat"]
def MS : List Str := ["mice", "rain", "thief", "wind"]
theorem facts_map : FACTS = FS.map D.str := rfl
theorem deeds_map : DEEDS = DS.map D.str := rfl
theorem meds_map : MEDS = MS.map D.str := rfl
theorem fs_inc : Inc sLt FS := by unfold Inc FS; decide +kernel
theorem fs_ok : ∀ f ∈ FS, PyData.strOk f = true := by decide +kernel
theorem ds_ok : ∀ f ∈ DS, PyData.strOk f = true := by decide +kernel
theorem ms_ok : ∀ f ∈ MS, PyData.strOk f = true := by decide +kernel
theorem ds_inc : Inc sLt DS := by unfold Inc DS; decide +kernel
theorem ms_inc : Inc sLt MS := by unfold Inc MS; decide +kernel
/-- a pair of which no fact is on both sides -/
def Disj (c : Pr) : Prop := ∀ f ∈ c.a, f ∉ c.b
theorem pair_typed {fs : List Str} (n : fs.Nodup) {ps ts : List D} (h : PairOf (fs.map D.str) ps ts) : ∃ c : Pr, pairD ps ts = eP c ∧ WfPr fs c ∧ Disj c := by
  obtain ⟨h1, h2, l, h3, h4⟩ := h
  obtain ⟨a, ha, rfl⟩ := List.sublist_map_iff.mp h1
  obtain ⟨b, hb, rfl⟩ := List.sublist_map_iff.mp h2
  obtain ⟨l', hl, rfl⟩ := List.sublist_map_iff.mp h3
  refine ⟨⟨a, b⟩, rfl, ⟨ha, hb⟩, fun f hf hb' => ?_⟩
  have nd : (l'.map D.str).Nodup := by
    unfold List.Nodup
    rw [List.pairwise_map]
    exact (List.Nodup.sublist hl n).imp fun h e => h (D.str.inj e)
  have nd2 : (a.map D.str ++ b.map D.str).Nodup := (h4.nodup_iff).mpr nd
  rw [List.nodup_append] at nd2
  exact nd2.2.2 _ (List.mem_map.mpr ⟨f, hf, rfl⟩) _ (List.mem_map.mpr ⟨f, hb', rfl⟩) rfl
/-- a drawn deed -/
structure GoodDd (fs : List Str) (d : Dd) : Prop where
  wf : WfDd fs d
  cost : d.cost ≤ 1000
  chs : d.chs.length ≤ 3
  dj : Disj d.cond
theorem chs_typed {fs : List Str} (n : fs.Nodup) : ∀ chs : List D, (∀ ch ∈ chs, ∃ ps ts, ch = pairD ps ts ∧ PairOf (fs.map D.str) ps ts) → ∃ cs : List Pr, chs = cs.map eP ∧ ∀ c ∈ cs, WfPr fs c
  | [], _ => ⟨[], rfl, fun c h => by cases h⟩
  | ch :: chs, h => by
    obtain ⟨ps, ts, rfl, hp⟩ := h ch List.mem_cons_self
    obtain ⟨c, e, hc, _⟩ := pair_typed n hp
    obtain ⟨cs, rfl, hcs⟩ := chs_typed n chs fun x hx => h x (List.mem_cons_of_mem _ hx)
    refine ⟨c :: cs, by rw [List.map_cons, e], fun x hx => ?_⟩
    rcases List.mem_cons.mp hx with rfl | hx
    · exact hc
    · exact hcs x hx
theorem deed_typed {fs : List Str} (n : fs.Nodup) {nm : Str} (hnm : PyData.strOk nm = true) {d : D} (h : DeedOk (fs.map D.str) (.str nm) d) : ∃ d' : Dd, d = eDd d' ∧ d'.name = nm ∧ GoodDd fs d' := by
  obtain ⟨c, ps, ts, chs, rfl, h1, h2, h3, h4, h5, h6⟩ := h
  obtain ⟨cnd, e1, hc, hdj⟩ := pair_typed n h3
  obtain ⟨cs, rfl, hcs⟩ := chs_typed n chs h6
  rw [List.length_map] at h4 h5
  refine ⟨⟨nm, c.toNat, cnd, cs⟩, ?_, rfl, ⟨⟨hnm, by show 1 ≤ c.toNat; omega, hc, hcs, fun z => ?_, by show cs.length ≤ 100; omega⟩, by show c.toNat ≤ 1000; omega, h5, hdj⟩⟩
  · unfold eDd
    simp only
    rw [e1]
    have : ((c.toNat : Nat) : Int) = c := by omega
    rw [this]
  · have z : cs = [] := z
    rw [z] at h4
    simp at h4
theorem med_typed {fs : List Str} (n : fs.Nodup) {nm : Str} (hnm : PyData.strOk nm = true) {d : D} (h : MedOk (fs.map D.str) (.str nm) d) : ∃ d' : Md, d = eMd d' ∧ d'.name = nm ∧ WfMd fs d' := by
  obtain ⟨ps, ts, ps', ts', rfl, h1, h2⟩ := h
  obtain ⟨c, e1, hc, _⟩ := pair_typed n h1
  obtain ⟨c', e2, hc', _⟩ := pair_typed n h2
  exact ⟨⟨nm, c, c'⟩, by unfold eMd; simp only; rw [e1, e2], rfl, ⟨hnm, hc, hc'⟩⟩
theorem each_typed {τ : Type} {R : D → D → Prop} {e : τ → D} {nmof : τ → Str} {G : τ → Prop} : ∀ (nms : List Str) (xs : List D), (∀ nm ∈ nms, ∀ d, R (.str nm) d → ∃ t, d = e t ∧ nmof t = nm ∧ G t) → Each R (nms.map D.str) xs → ∃ ts : List τ, xs = ts.map e ∧ ts.map nmof = nms.take xs.length ∧ ∀ t ∈ ts, G t
  | nms, [], _, _ => ⟨[], rfl, by simp, fun t h => by cases h⟩
  | [], x :: xs, _, h => by
    obtain ⟨nm, h1, _⟩ := h 0 x rfl
    simp at h1
  | nm :: nms, x :: xs, f, h => by
    obtain ⟨nm', h1, h2⟩ := h 0 x rfl
    simp at h1
    subst h1
    obtain ⟨t, rfl, h3, h4⟩ := f nm List.mem_cons_self x h2
    obtain ⟨ts, rfl, h5, h6⟩ := each_typed nms xs (fun n hn => f n (List.mem_cons_of_mem _ hn)) fun i d hi => by
      obtain ⟨nm'', a, b⟩ := h (i + 1) d (by simpa using hi)
      exact ⟨nm'', by simpa using a, b⟩
    refine ⟨t :: ts, rfl, ?_, fun u hu => ?_⟩
    · simp only [List.map_cons, List.length_cons, List.length_map, List.take_succ_cons, h3]
      rw [List.length_map] at h5
      rw [h5]
    · rcases List.mem_cons.mp hu with rfl | hu
      · exact h4
      · exact h6 u hu
/-- a drawn world -/
structure GoodW (most : Nat) (w : Wr) : Prop where
  wf : WfW w
  few : w.facts.length ≤ most
  some_ : 1 ≤ w.facts.length
  facts : ∃ n, w.facts = FS.take n
  deeds : ∀ d ∈ w.deeds, GoodDd w.facts d
  many : 1 ≤ w.deeds.length ∧ w.deeds.length ≤ 7
  meds : w.meds.length ≤ 4
  namesD : w.deeds.map (·.name) = DS.take w.deeds.length
  namesM : w.meds.map (·.name) = MS.take w.meds.length
theorem world_typed {most : Nat} {w : D} (h : WorldOk most w) : ∃ w' : Wr, w = eW w' ∧ GoodW most w' := by
  obtain ⟨n, ds, ms, h1, h2, h3, rfl, h4, h5, h6, h7, h8⟩ := h
  have ef : FACTS.take n = (FS.take n).map D.str := by rw [facts_map, List.map_take]
  rw [ef] at h7 h8 ⊢
  have hinc : Inc sLt (FS.take n) := fs_inc.sub (List.take_sublist _ _)
  have nd := sto_s.inc_nodup hinc
  rw [deeds_map] at h7
  rw [meds_map] at h8
  obtain ⟨ds', rfl, e1, g1⟩ := each_typed (e := eDd) (nmof := (·.name)) (G := GoodDd (FS.take n)) DS ds (fun nm hnm d hd => deed_typed nd (ds_ok nm hnm) hd) h7
  obtain ⟨ms', rfl, e2, g2⟩ := each_typed (e := eMd) (nmof := (·.name)) (G := WfMd (FS.take n)) MS ms (fun nm hnm d hd => med_typed nd (ms_ok nm hnm) hd) h8
  rw [List.length_map] at h4 h5 h6 e1 e2
  have hl : (FS.take n).length = n := by rw [List.length_take]; show min n 6 = n; omega
  refine ⟨⟨FS.take n, ds', ms'⟩, rfl, ⟨⟨hinc, by show (FS.take n).length ≤ 6; omega, fun f hf => fs_ok f (List.mem_of_mem_take hf), fun d hd => (g1 d hd).wf, g2, by show ds'.length ≤ 100; omega, by show ms'.length ≤ 100; omega⟩, by show (FS.take n).length ≤ most; omega, by show 1 ≤ (FS.take n).length; omega, ⟨n, rfl⟩, g1, ⟨h4, h5⟩, h6, e1, e2⟩⟩
/-- a world, a goal, a place drawn -/
theorem case_typed {most : Nat} {c : D} (h : CaseOk most c) : ∃ (w : Wr) (g : Pr) (p : Pl), c = .tup [eW w, eP g, ePl p] ∧ GoodW most w ∧ WfPr w.facts g ∧ Disj g ∧ p.st.Sublist w.facts ∧ p.s < 3 ∧ p.m < 3 := by
  obtain ⟨w, ps, ts, xs, sl, me, rfl, h1, h2, h3, h4, h5, h6, h7⟩ := h
  obtain ⟨w', rfl, hw⟩ := world_typed h1
  have ew : wFacts (eW w') = w'.facts.map D.str := rfl
  rw [ew] at h2 h3
  obtain ⟨g, e1, hg, hdj⟩ := pair_typed hw.wf.nodup h2
  obtain ⟨s, hs, rfl⟩ := List.sublist_map_iff.mp h3
  refine ⟨w', g, ⟨s, sl.toNat, me.toNat⟩, ?_, hw, hg, hdj, hs, by show sl.toNat < 3; omega, by show me.toNat < 3; omega⟩
  unfold caseD ePl eS
  rw [e1]
  have z1 : ((sl.toNat : Nat) : Int) = sl := by omega
  have z2 : ((me.toNat : Nat) : Int) = me := by omega
  simp only [z1, z2]
end G
/-! k14: what makes nothing cheaper. -/
namespace G
open PySem
theorem Win.sim {α β : Type} [DecidableEq α] [DecidableEq β] {goal : α → Prop} {steps : Stp α} {goal' : β → Prop} {steps' : Stp β} (R : β → α → Prop) (hg : ∀ p' p, R p' p → goal' p' → goal p)
    (hs : ∀ p' p, R p' p → ∀ x ∈ steps' p', ∃ y ∈ steps p, (∀ c, cLe (add2 y.1 c) (add2 x.1 c)) ∧ ∀ q ∈ y.2, ∃ q' ∈ x.2, R q' q) {p' : β} {c : C2} (h : Win goal' steps' p' c) : ∀ p, R p' p → Win goal steps p c := by
  induction h with
  | goal g => exact fun p r => .goal (hg _ _ r g)
  | step a b e ih =>
    intro p r
    obtain ⟨y, hy, h1, h2⟩ := hs _ _ r _ a
    exact .step hy (fun q hq => let ⟨q', hq', r'⟩ := h2 q hq; ih q' hq' q r') ((h1 _).trans e)
/-- no less -/
def AtLeast (a b : Option C2) : Prop := match a, b with
  | none, _ => True
  | some _, none => False
  | some x, some y => cLe y x
theorem lst_le {W W' : C2 → Prop} {o o' : Option C2} (h : IsLst W o) (h' : IsLst W' o') (s : ∀ c, W' c → W c) : AtLeast o' o := by
  cases o' with
  | none => trivial
  | some x => cases o with
    | none => exact h x (s x h'.1)
    | some y => exact h.2 x (s x h'.1)
/-! ### one world harder than another -/
theorem End0.sim {p' p q : Pl} {chs : List Pr} (e : p'.st = p.st) (hs : p.s ≤ p'.s) (hm : p.m ≤ p'.m) (h : End0 p chs q) : ∃ q', End0 p' chs q' ∧ q'.st = q.st ∧ q.s ≤ q'.s ∧ q.m ≤ q'.m := by
  unfold End0 at h
  split at h
  · exact h.elim
  · rename_i c cs
    rcases h with rfl | ⟨h1, c', h2, rfl⟩
    · exact ⟨⟨behindF p'.st c, p'.s, p'.m⟩, .inl rfl, by simp [e], hs, hm⟩
    · exact ⟨⟨behindF p'.st c', p'.s - 1, p'.m⟩, .inr ⟨by omega, c', h2, rfl⟩, by simp [e], by show p.s - 1 ≤ p'.s - 1; omega, hm⟩
theorem Lead.sim {w w' : Wr} {p' p q : Pl} {d d' : Dd} (e : p'.st = p.st) (hs : p.s ≤ p'.s) (hm : p.m ≤ p'.m) (hd : ∀ q, End0 p' d.chs q → End0 p' d'.chs q) (hw : ∀ m ∈ w.meds, m ∈ w'.meds) (h : Lead w p d q) : ∃ q', Lead w' p' d' q' ∧ q'.st = q.st ∧ q.s ≤ q'.s ∧ q.m ≤ q'.m := by
  rcases h with h | ⟨h1, r, h2, m, h3, h4, rfl⟩
  · obtain ⟨q', a, b⟩ := h.sim e hs hm
    exact ⟨q', .inl (hd q' a), b⟩
  · obtain ⟨r', a, b1, b2, b3⟩ := h2.sim e hs hm
    refine ⟨⟨behindF r'.st m.ch, r'.s, r'.m - 1⟩, .inr ⟨by omega, r', hd r' a, m, hw m h3, by rw [b1]; exact h4, rfl⟩, by simp [b1], b2, by show r.m - 1 ≤ r'.m - 1; omega⟩
/-- a world in which there is no deed that is not there in the other one, cheaper or with a weaker condition or fewer ends, and all meddlers -/
structure Harder (w' w : Wr) : Prop where
  deeds : ∀ d' ∈ w'.deeds, ∃ d ∈ w.deeds, d.cost ≤ d'.cost ∧ (∀ s, holdsB d'.cond s = true → holdsB d.cond s = true) ∧ ∀ p q, End0 p d.chs q → End0 p d'.chs q
  meds : ∀ m ∈ w.meds, m ∈ w'.meds
theorem harder_win {w' w : Wr} (h : Harder w' w) {g g' : Pr} (hg : ∀ s, holdsB g' s = true → holdsB g s = true) {p' p : Pl} (e : p'.st = p.st) (hs : p.s ≤ p'.s) (hm : p.m ≤ p'.m) {c : C2} (hw : WinW w' g' none p' c) : WinW w g none p c := by
  refine Win.sim (fun p' p => p'.st = p.st ∧ p.s ≤ p'.s ∧ p.m ≤ p'.m) (fun p' p r h => ?_) (fun p' p r x hx => ?_) hw p ⟨e, hs, hm⟩
  · rw [← r.1]; exact hg _ h
  · obtain ⟨d', hd', h1, rfl⟩ := gstep_mem.mp hx
    obtain ⟨d, hd, h2, h3, h4⟩ := h.deeds d' hd'
    refine ⟨((othF none p d.name, d.cost), leadsF w p d), gstep_mem.mpr ⟨d, hd, by rw [← r.1]; exact h3 _ h1, rfl⟩, fun c => ?_, fun q hq => ?_⟩
    · rw [cLe_iff]
      exact .inr ⟨rfl, Nat.add_le_add_right h2 _⟩
    · obtain ⟨q', a, b⟩ := (mem_leads.mp hq).sim r.1 r.2.1 r.2.2 (h4 p') h.meds
      exact ⟨q', mem_leads.mpr a, b⟩
theorem harder_least {w' w : Wr} (h : Harder w' w) {g g' : Pr} (hg : ∀ s, holdsB g' s = true → holdsB g s = true) {p' p : Pl} (e : p'.st = p.st) (hs : p.s ≤ p'.s) (hm : p.m ≤ p'.m) {o o' : Option C2} (h1 : LeastW w g none p o) (h2 : LeastW w' g' none p' o') : AtLeast o' o :=
  lst_le h1 h2 fun _ => harder_win h hg e hs hm
theorem Harder.refl (w : Wr) : Harder w w := ⟨fun d hd => ⟨d, hd, Nat.le_refl _, fun _ h => h, fun _ _ h => h⟩, fun _ h => h⟩
theorem holds_mono {c c' : Pr} (ha : ∀ f ∈ c.a, f ∈ c'.a) (hb : ∀ f ∈ c.b, f ∈ c'.b) (s : List Str) (h : holdsB c' s = true) : holdsB c s = true := by
  unfold holdsB at h ⊢
  rw [Bool.and_eq_true, Bool.not_eq_true'] at h ⊢
  obtain ⟨h1, h2⟩ := h
  rw [List.all_eq_true] at h1
  rw [List.any_eq_false] at h2
  rw [List.all_eq_true, List.any_eq_false]
  exact ⟨fun f hf => h1 f (ha f hf), fun f hf => h2 f (hb f hf)⟩
theorem End0.more {p q : Pl} {chs : List Pr} {c : Pr} (h : End0 p chs q) : End0 p (chs ++ [c]) q := by
  cases chs with
  | nil => exact h.elim
  | cons a cs =>
    rcases h with h | ⟨h1, c', h2, h3⟩
    · exact .inl h
    · exact .inr ⟨h1, c', List.mem_append_left _ h2, h3⟩
/-! ### costs so many times -/
def times (k : Nat) (d : Dd) : Dd := { d with cost := k * d.cost }
theorem lead_chs {w w' : Wr} {p : Pl} {d d' : Dd} (h : d.chs = d'.chs) (hm : w.meds = w'.meds) : leadsF w p d = leadsF w' p d' := by unfold leadsF; rw [h, hm]
theorem cLe_div {a b : C2} (k : Nat) (h : cLe a b) : cLe (a.1, a.2 / k) (b.1, b.2 / k) := by
  rw [cLe_iff] at h ⊢
  rcases h with h | ⟨h1, h2⟩
  · exact .inl h
  · exact .inr ⟨h1, Nat.div_le_div_right h2⟩
theorem times_up {w : Wr} {g : Pr} {k : Nat} (p : Pl) (c : C2) (h : WinW w g none p c) : WinW { w with deeds := w.deeds.map (times k) } g none p (c.1, k * c.2) := by
  induction h with
  | goal g => exact .goal g
  | step a b e ih =>
    obtain ⟨d, hd, h1, e1⟩ := gstep_mem.mp a
    cases e1
    refine .step (gstep_mem.mpr ⟨times k d, List.mem_map.mpr ⟨d, hd, rfl⟩, h1, rfl⟩) (c' := (_, _)) (fun q hq => ih q ?_) ?_
    · rw [lead_chs (w := w) (d := d) (w' := { w with deeds := w.deeds.map (times k) }) (d' := times k d) rfl rfl]; exact hq
    · rw [cLe_iff] at e ⊢
      simp only [add2, othF, times] at e ⊢
      rcases e with e | ⟨e1, e2⟩
      · exact .inl e
      · refine .inr ⟨e1, ?_⟩
        have := Nat.mul_le_mul_left k e2
        rw [Nat.mul_add] at this
        exact this
theorem times_down {w : Wr} {g : Pr} {k : Nat} (hk : 0 < k) (p : Pl) (c : C2) (h : WinW { w with deeds := w.deeds.map (times k) } g none p c) : WinW w g none p (c.1, c.2 / k) := by
  induction h with
  | goal g => exact .goal g
  | step a b e ih =>
    obtain ⟨d', hd', h1, e1⟩ := gstep_mem.mp a
    cases e1
    obtain ⟨d, hd, rfl⟩ := List.mem_map.mp hd'
    refine .step (gstep_mem.mpr ⟨d, hd, h1, rfl⟩) (c' := (_, _)) (fun q hq => ih q ?_) ?_
    · rw [← lead_chs (w := w) (d := d) (w' := { w with deeds := w.deeds.map (times k) }) (d' := times k d) rfl rfl]; exact hq
    · have z := cLe_div k e
      rw [cLe_iff] at z ⊢
      simp only [add2, othF, times] at z ⊢
      rw [Nat.mul_add_div hk] at z
      exact z
theorem times_least {w : Wr} {g : Pr} {k : Nat} (hk : 0 < k) {p : Pl} {o o' : Option C2} (h : LeastW w g none p o) (h' : LeastW { w with deeds := w.deeds.map (times k) } g none p o') : o' = o.map fun c => (c.1, k * c.2) := by
  refine IsLst.uniq h' ?_
  cases o with
  | none => exact fun c hc => h _ (times_down hk p c hc)
  | some c =>
    refine ⟨times_up p c h.1, fun c' hc => ?_⟩
    have z := h.2 _ (times_down hk p c' hc)
    rw [cLe_iff] at z ⊢
    simp only at z ⊢
    rcases z with z | ⟨z1, z2⟩
    · exact .inl z
    · refine .inr ⟨z1, ?_⟩
      have := Nat.mul_le_mul_left k z2
      have := Nat.mul_div_le c'.2 k
      omega
/-! ### without meddlers and slips -/
theorem plain_win {w : Wr} (hm : w.meds = []) (hd : ∀ d ∈ w.deeds, d.chs.length ≤ 1) {g : Pr} {p p' : Pl} (e : p'.st = p.st) {c : C2} (h : WinW w g none p' c) : WinW w g none p c := by
  refine Win.sim (fun p' p => p'.st = p.st) (fun p' p r h => ?_) (fun p' p r x hx => ?_) h p e
  · rw [← r]; exact h
  · obtain ⟨d, hd1, h1, rfl⟩ := gstep_mem.mp hx
    refine ⟨((othF none p d.name, d.cost), leadsF w p d), gstep_mem.mpr ⟨d, hd1, by rw [← r]; exact h1, rfl⟩, fun c => cLe.refl _, fun q hq => ?_⟩
    rcases mem_leads.mp hq with z | ⟨_, _, _, m, z, _⟩
    · have hl := hd d hd1
      unfold End0 at z
      split at z
      · exact z.elim
      · rename_i c cs hcs
        rcases z with rfl | ⟨_, c', z2, _⟩
        · refine ⟨⟨behindF p'.st c, p'.s, p'.m⟩, mem_leads.mpr (.inl (by rw [hcs]; exact .inl rfl)), by simp [r]⟩
        · rw [hcs] at hl
          cases cs with
          | nil => cases z2
          | cons _ _ => simp at hl
    · rw [hm] at z; cases z
theorem plain_least {w : Wr} (hm : w.meds = []) (hd : ∀ d ∈ w.deeds, d.chs.length ≤ 1) {g : Pr} {p p' : Pl} (e : p'.st = p.st) {o o' : Option C2} (h : LeastW w g none p o) (h' : LeastW w g none p' o') : o = o' :=
  IsLst.uniq h (h'.congr fun c => ⟨plain_win hm hd e, plain_win hm hd e.symm⟩)
end G
/-! k14: its defs. -/
namespace G
open PySem PySem.Spec PyProof.Rows L2
def b__law_at_least : Ss := (.cons (.ret (.bop false (.cons (.cmp .Is (.var 0) .non) (.cons (.bop true (.cons (.cmp .IsNot (.var 1) .non) (.cons (.cmp .GtE (.var 0) (.var 1)) .nil))) .nil)))) .nil)
def b__law_harder_1 : Ss := (.cons (.exp (.app (.var 4) (.tup (.cons (.tup (.cons (.var 8) (.cons (.bin .Add (.bin .Add (.slc (.var 9) .no (.at (.var 3))) (.tup (.cons (.var 7) .nil))) (.slc (.var 9) (.at (.bin .Add (.var 3) (.int 1))) .no)) (.cons (.var 10) .nil)))) (.cons (.var 2) .nil))))) .nil)
def b__law_harder : Ss := (.cons (.asg (.tup (.cons (.var 8) (.cons (.var 9) (.cons (.var 10) .nil)))) (.var 1)) (.cons (.asg (.tup (.cons (.var 11) (.cons (.var 12) (.cons (.var 13) .nil)))) (.var 2)) (.cons (.asg (.var 3) (.call "_law_draw" (.cons (.var 0) (.cons (.bi .len (.var 9)) .nil)))) (.cons (.asg (.tup (.cons (.var 14) (.cons (.var 15) (.cons (.var 16) (.cons (.var 17) .nil))))) (.idx (.var 9) (.var 3))) (.cons (.asg (.var 4) (.bx (.disp (.cons (.tup (.cons (.var 1) (.cons (.tup (.cons (.var 11) (.cons (.bin .Add (.var 12) (.int 1)) (.cons (.var 13) .nil)))) .nil))) (.cons (.tup (.cons (.var 1) (.cons (.tup (.cons (.var 11) (.cons (.var 12) (.cons (.bin .Add (.var 13) (.int 1)) .nil)))) .nil))) .nil))))) (.cons (.exp (.app (.var 4) (.tup (.cons (.tup (.cons (.var 8) (.cons (.bin .Add (.slc (.var 9) .no (.at (.var 3))) (.slc (.var 9) (.at (.bin .Add (.var 3) (.int 1))) .no)) (.cons (.var 10) .nil)))) (.cons (.var 2) .nil))))) (.cons (.asg (.var 5) (.bi .tuple (.fr (.compif [19] (.var 19) (.of (.var 8)) (.bop true (.cons (.cmp .In (.var 19) (.bin .Add (.idx (.var 16) (.int 0)) (.slc (.var 8) .no (.at (.int 2))))) (.cons (.cmp .NotIn (.var 19) (.idx (.var 16) (.int 1))) .nil))) (.var 19))))) (.cons (.asg (.var 6) (.bx (.disp (.cons (.tup (.cons (.var 14) (.cons (.var 15) (.cons (.tup (.cons (.var 5) (.cons (.idx (.var 16) (.int 1)) .nil))) (.cons (.var 17) .nil))))) (.cons (.tup (.cons (.var 14) (.cons (.mx false (.int 1000) (.bin .Add (.var 15) (.int 1))) (.cons (.var 16) (.cons (.var 17) .nil))))) .nil))))) (.cons (.ife (.cmp .Lt (.bi .len (.var 17)) (.int 3)) (.cons (.exp (.app (.var 6) (.tup (.cons (.var 14) (.cons (.var 15) (.cons (.var 16) (.cons (.bin .Add (.var 17) (.tup (.cons (.call "_law_pair" (.cons (.var 0) (.cons (.var 8) (.cons (.int 3) .nil)))) .nil))) .nil))))))) .nil) .nil) (.cons (.gfz 6) (.cons (.for (.var 7) (.of (.var 6)) b__law_harder_1) (.cons (.ife (.cmp .Lt (.bi .len (.var 10)) (.int 4)) (.cons (.asg (.var 18) (.bin .Add (.var 10) (.tup (.cons (.tup (.cons (.str "zz") (.cons (.call "_law_pair" (.cons (.var 0) (.cons (.var 8) (.cons (.int 4) .nil)))) (.cons (.call "_law_pair" (.cons (.var 0) (.cons (.var 8) (.cons (.int 4) .nil)))) .nil)))) .nil)))) (.cons (.exp (.app (.var 4) (.tup (.cons (.tup (.cons (.var 8) (.cons (.var 9) (.cons (.var 18) .nil)))) (.cons (.var 2) .nil))))) .nil)) .nil) (.cons (.ret (.frz (.var 4))) .nil)))))))))))))
def b14_law_1 : Ss := (.cons (.ife (.not (.call "_law_at_least" (.cons (.call "least" (.cons (.var 14) (.cons (.var 9) (.cons (.var 15) .nil)))) (.cons (.var 3) .nil)))) (.cons (.ret (.bl false)) .nil) .nil) .nil)
def b14_law_2 : Ss := (.cons (.ife (.not (.call "_law_at_least" (.cons (.var 3) (.cons (.call "least" (.cons (.var 8) (.cons (.var 4) (.cons (.var 10) .nil)))) .nil)))) (.cons (.ret (.bl false)) .nil) .nil) .nil)
def b14_law_3 : Ss := (.cons (.asg (.var 2) (.call "_law_draws" (.cons (.var 0) (.cons (.var 1) .nil)))) (.cons (.asg (.tup (.cons (.var 8) (.cons (.var 9) (.cons (.var 10) .nil)))) (.call "_law_case" (.cons (.var 2) (.cons (.int 3) .nil)))) (.cons (.asg (.tup (.cons (.var 11) (.cons (.var 12) (.cons (.var 13) .nil)))) (.var 8)) (.cons (.asg (.var 3) (.call "least" (.cons (.var 8) (.cons (.var 9) (.cons (.var 10) .nil))))) (.cons (.for (.tup (.cons (.var 14) (.cons (.var 15) .nil))) (.of (.call "_law_harder" (.cons (.var 2) (.cons (.var 8) (.cons (.var 10) .nil))))) b14_law_1) (.cons (.for (.var 4) (.of (.fr (.disp (.cons (.tup (.cons (.slc (.idx (.var 9) (.int 0)) (.at (.int 1)) .no) (.cons (.idx (.var 9) (.int 1)) .nil))) (.cons (.tup (.cons (.idx (.var 9) (.int 0)) (.cons (.slc (.idx (.var 9) (.int 1)) .no (.at (.neg (.int 1)))) .nil))) (.cons (.tup (.cons (.tup .nil) (.cons (.tup .nil) .nil))) .nil)))))) b14_law_2) (.cons (.asg (.var 5) (.bi .tuple (.fr (.comp [16] (.var 16) (.of (.var 12)) (.bin .Add (.tup (.cons (.idx (.var 16) (.int 0)) (.cons (.bin .Add (.int 1) (.bin .Mod (.idx (.var 16) (.int 1)) (.int 100))) .nil))) (.slc (.var 16) (.at (.int 2)) .no)))))) (.cons (.asg (.var 6) (.bi .tuple (.fr (.comp [16] (.var 16) (.of (.var 5)) (.bin .Add (.tup (.cons (.idx (.var 16) (.int 0)) (.cons (.bin .Mult (.int 7) (.idx (.var 16) (.int 1))) .nil))) (.slc (.var 16) (.at (.int 2)) .no)))))) (.cons (.asg (.var 3) (.call "least" (.cons (.tup (.cons (.var 11) (.cons (.var 5) (.cons (.var 13) .nil)))) (.cons (.var 9) (.cons (.var 10) .nil))))) (.cons (.ife (.cmp .NotEq (.call "least" (.cons (.tup (.cons (.var 11) (.cons (.var 6) (.cons (.var 13) .nil)))) (.cons (.var 9) (.cons (.var 10) .nil)))) (.ite (.cmp .Is (.var 3) .non) .non (.bin .Mult (.int 7) (.var 3)))) (.cons (.ret (.bl false)) .nil) .nil) (.cons (.asg (.var 7) (.tup (.cons (.var 11) (.cons (.bi .tuple (.fr (.comp [16] (.var 16) (.of (.var 12)) (.bin .Add (.slc (.var 16) .no (.at (.int 3))) (.tup (.cons (.slc (.idx (.var 16) (.int 3)) .no (.at (.int 1))) .nil)))))) (.cons (.tup .nil) .nil))))) (.cons (.ife (.cmp .NotEq (.call "least" (.cons (.var 7) (.cons (.var 9) (.cons (.var 10) .nil)))) (.call "least" (.cons (.var 7) (.cons (.var 9) (.cons (.tup (.cons (.idx (.var 10) (.int 0)) (.cons (.int 0) (.cons (.int 0) .nil)))) .nil))))) (.cons (.ret (.bl false)) .nil) .nil) .nil))))))))))))
def b14_law : Ss := (.cons (.for (.var 1) (.range1 (.mx true (.int 1) (.mx false (.int 8) (.bi .len (.var 0))))) b14_law_3) (.cons (.ret (.bl true)) .nil))
variable {Γ : Ctx}
def atLeastB (a b : Option Nat) : Bool := match a, b with
  | none, _ => true
  | some _, none => false
  | some x, some y => decide (y ≤ x)
def sp__law_at_least : Spec := fun ds st P _ => ∃ a b, ds = [eN a, eN b] ∧ P (.bl (atLeastB a b)) st
theorem d__law_at_least : Does Γ 2 2 b__law_at_least sp__law_at_least := by
  rintro ds st P ⟨a, b, rfl, hP⟩
  refine ⟨rfl, ?_⟩
  unfold b__law_at_least startE
  try simp only [denSs, denS, den, denB, denP, denI, denEs, denO, asg, asgs, wipeE, items1, eS, List.map_cons, List.map_nil, List.cons_append, List.nil_append, List.length_cons, List.length_nil, List.replicate, Nat.add_zero, Nat.zero_add, Nat.reduceAdd, Nat.reduceSub, List.getElem?_cons_zero, List.getElem?_cons_succ, List.set_cons_zero, List.set_cons_succ, if_true, if_false, Bool.false_eq_true, reduceCtorEq]
  cases a with
  | none => exact is_ev ⟨_, rfl, by simpa [atLeastB, eN] using hP⟩
  | some x =>
    refine is_ev ⟨_, rfl, ?_⟩
    simp only [eN, if_true]
    cases b with
    | none => exact isnot_ev ⟨_, rfl, by simpa [atLeastB, eN] using hP⟩
    | some y =>
      refine isnot_ev ⟨_, rfl, ?_⟩
      simp only [eN, if_true]
      have e : decide ((y : Int) ≤ x) = atLeastB (some x) (some y) := by simp [atLeastB]
      rw [ci_ge, e]
      exact hP
/-- a world, a place in which nothing is cheaper -/
def HardOk (w : Wr) (p : Pl) (d : D) : Prop := ∃ w' p', d = .tup [eW w', ePl p'] ∧ WfW w' ∧ Harder w' w ∧ w'.facts = w.facts ∧ (∀ d ∈ w'.deeds, d.cost ≤ 1000) ∧ p'.st = p.st ∧ p.s ≤ p'.s ∧ p.m ≤ p'.m ∧ p'.s ≤ 3 ∧ p'.m ≤ 3
theorem cut_drop {xs : List D} (k : Nat) : cutD xs (some (k : Int)) none = xs.drop k := by
  unfold cutD
  rw [HT.sIx_nat]
  show (xs.drop (min k xs.length)).take (xs.length - min k xs.length) = _
  by_cases h : k ≤ xs.length
  · rw [Nat.min_eq_left h, List.take_of_length_le (by rw [List.length_drop]; omega)]
  · rw [Nat.min_eq_right (by omega), List.drop_length, List.take_nil, List.drop_of_length_le (by omega)]
/-- one deed exchanged -/
theorem exch_hard {w : Wr} (hw : WfW w) {i : Nat} {d0 d' : Dd} (hi : w.deeds[i]? = some d0) (h' : WfDd w.facts d') (hc : d0.cost ≤ d'.cost) (hh : ∀ s, holdsB d'.cond s = true → holdsB d0.cond s = true) (he : ∀ p q, End0 p d0.chs q → End0 p d'.chs q) :
    WfW { w with deeds := w.deeds.take i ++ [d'] ++ w.deeds.drop (i + 1) } ∧ Harder { w with deeds := w.deeds.take i ++ [d'] ++ w.deeds.drop (i + 1) } w := by
  have mem : ∀ x ∈ w.deeds.take i ++ [d'] ++ w.deeds.drop (i + 1), x ∈ w.deeds ∨ x = d' := fun x hx => by
    rcases List.mem_append.mp hx with z | z
    · rcases List.mem_append.mp z with z | z
      · exact .inl (List.mem_of_mem_take z)
      · exact .inr (List.mem_singleton.mp z)
    · exact .inl (List.mem_of_mem_drop z)
  refine ⟨⟨hw.inc, hw.len, hw.ok, fun x hx => ?_, hw.meds, ?_, hw.manyM⟩, ⟨fun x hx => ?_, fun _ h => h⟩⟩
  · rcases mem x hx with z | rfl
    · exact hw.deeds x z
    · exact h'
  · have hil : i < w.deeds.length := (List.getElem?_eq_some_iff.mp hi).1
    have := hw.manyD
    simp only [List.length_append, List.length_take, List.length_drop, List.length_singleton]
    omega
  · rcases mem x hx with z | rfl
    · exact ⟨x, z, Nat.le_refl _, fun _ h => h, fun _ _ h => h⟩
    · exact ⟨d0, List.mem_of_getElem? hi, hc, hh, he⟩
/-- one deed left out -/
theorem less_hard {w : Wr} (hw : WfW w) (i : Nat) : WfW { w with deeds := w.deeds.take i ++ w.deeds.drop (i + 1) } ∧ Harder { w with deeds := w.deeds.take i ++ w.deeds.drop (i + 1) } w := by
  have mem : ∀ x ∈ w.deeds.take i ++ w.deeds.drop (i + 1), x ∈ w.deeds := fun x hx => by
    rcases List.mem_append.mp hx with z | z
    · exact List.mem_of_mem_take z
    · exact List.mem_of_mem_drop z
  refine ⟨⟨hw.inc, hw.len, hw.ok, fun x hx => hw.deeds x (mem x hx), hw.meds, ?_, hw.manyM⟩, ⟨fun x hx => ⟨x, mem x hx, Nat.le_refl _, fun _ h => h, fun _ _ h => h⟩, fun _ h => h⟩⟩
  have := hw.manyD
  simp only [List.length_append, List.length_take, List.length_drop]
  omega
/-- a meddler more -/
theorem more_hard {w : Wr} (hw : WfW w) {m : Md} (hm : WfMd w.facts m) (hl : w.meds.length < 100) : WfW { w with meds := w.meds ++ [m] } ∧ Harder { w with meds := w.meds ++ [m] } w := by
  refine ⟨⟨hw.inc, hw.len, hw.ok, hw.deeds, fun x hx => ?_, hw.manyD, by simp; omega⟩, ⟨fun x hx => ⟨x, hx, Nat.le_refl _, fun _ h => h, fun _ _ h => h⟩, fun _ h => List.mem_append_left _ h⟩⟩
  rcases List.mem_append.mp hx with z | z
  · exact hw.meds x z
  · rw [List.mem_singleton.mp z]; exact hm
/-- the deeds that are exchanged -/
structure Exch (w : Wr) (d0 d' : Dd) : Prop where
  wf : WfDd w.facts d'
  c : d0.cost ≤ d'.cost
  c2 : d'.cost ≤ 1000
  h : ∀ s, holdsB d'.cond s = true → holdsB d0.cond s = true
  e : ∀ p q, End0 p d0.chs q → End0 p d'.chs q
def sp__law_harder : Spec := fun ds st P _ => ∃ a w p, ds = [.loc a, eW w, ePl p] ∧ GoodW 3 w ∧ p.st.Sublist w.facts ∧ p.s < 3 ∧ p.m < 3 ∧ Dr st a ∧ ∀ L st', (∀ d ∈ L, HardOk w p d) → L.length ≤ 100 → Keep a st st' → P (.lst L) st'
/-- an expression among statements -/
theorem cons_exp {Γ : Ctx} {ρ : Env} {st : Store} {e : E} {ss : Ss} {K : Kn} (h : den Γ X0 e ρ st fun _ st1 => denSs Γ X0 ss K ρ st1) : denSs Γ X0 (.cons (.exp e) ss) K ρ st := by
  rw [denSs, denS]; exact h
/-- found.append((facts, .., ..), place) -/
theorem app_ev {Γ : Ctx} {ρ : Env} {st : Store} {i : Nat} {f : Addr} {xs : List D} {e : E} {d : D} {Q : Post} (hi : ρ[i]? = some (some (.loc f))) (hf : st f = some (.lst xs)) (hl : xs.length < 1000) (he : Ev Γ ρ st e d) (q : Q .non (st.set f (.lst (xs ++ [d])))) : den Γ X0 (.app (.var i) e) ρ st Q := by
  simp only [den, hi]
  refine ⟨f, xs, rfl, hf, he _ ⟨xs, hf, Nat.lt_of_lt_of_le hl (by decide), q⟩⟩
theorem eW_eq (w : Wr) : eW w = .tup [eS w.facts, .tup (w.deeds.map eDd), .tup (w.meds.map eMd)] := rfl
/-- the names of _law_harder -/
def envH (a : Addr) (w : Wr) (p : Pl) (i : Nat) (d : Dd) (o4 o5 o6 o7 o18 o19 : Option D) : Env :=
  [some (.loc a), some (eW w), some (ePl p), some (.int i), o4, o5, o6, o7, some (eS w.facts), some (.tup (w.deeds.map eDd)), some (.tup (w.meds.map eMd)), some (eS p.st), some (.int p.s), some (.int p.m), some (.str d.name), some (.int d.cost), some (eP d.cond), some (.tup (d.chs.map eP)), o18, o19]
theorem HardOk.mk {w w' : Wr} {p p' : Pl} (h : WfW w' ∧ Harder w' w) (hf : w'.facts = w.facts) (hc : ∀ d ∈ w'.deeds, d.cost ≤ 1000) (e : p'.st = p.st) (hs : p.s ≤ p'.s) (hm : p.m ≤ p'.m) (hs3 : p'.s ≤ 3) (hm3 : p'.m ≤ 3) : HardOk w p (.tup [eW w', ePl p']) :=
  ⟨w', p', rfl, h.1, h.2, hf, hc, e, hs, hm, hs3, hm3⟩
section
variable {a : Addr} {w : Wr} {p : Pl} {i : Nat} {d0 : Dd} {o4 o5 o6 o7 o18 o19 : Option D} {st : Store}
theorem ev_less (hw : WfW w) : Ev Γ (envH a w p i d0 o4 o5 o6 o7 o18 o19) st (.tup (.cons (.tup (.cons (.var 8) (.cons (.bin .Add (.slc (.var 9) .no (.at (.var 3))) (.slc (.var 9) (.at (.bin .Add (.var 3) (.int 1))) .no)) (.cons (.var 10) .nil)))) (.cons (.var 2) .nil)))
    (.tup [eW { w with deeds := w.deeds.take i ++ w.deeds.drop (i + 1) }, ePl p]) := fun Q hQ => by
  simp only [den, denEs, denP, denO, envH, opR, slcR, List.length_cons, List.length_nil, Nat.reduceAdd, List.getElem?_cons_zero, List.getElem?_cons_succ, List.set_cons_zero, List.set_cons_succ]
  refine ⟨_, rfl, _, rfl, ?_⟩
  have e1 : ((i : Int) + 1) = ((i + 1 : Nat) : Int) := by omega
  rw [e1, cut_take, cut_drop]
  refine ⟨?_, by decide, by decide, ?_⟩
  · have := hw.manyD
    simp only [List.length_take, List.length_drop, List.length_map]
    exact sz1000 (by omega)
  · rw [← List.map_take, ← List.map_drop, ← List.map_append]
    exact hQ
theorem ev_exch (hw : WfW w) {d' : Dd} : Ev Γ (envH a w p i d0 o4 o5 o6 (some (eDd d')) o18 o19) st (.tup (.cons (.tup (.cons (.var 8) (.cons (.bin .Add (.bin .Add (.slc (.var 9) .no (.at (.var 3))) (.tup (.cons (.var 7) .nil))) (.slc (.var 9) (.at (.bin .Add (.var 3) (.int 1))) .no)) (.cons (.var 10) .nil)))) (.cons (.var 2) .nil)))
    (.tup [eW { w with deeds := w.deeds.take i ++ [d'] ++ w.deeds.drop (i + 1) }, ePl p]) := fun Q hQ => by
  simp only [den, denEs, denP, denO, envH, opR, slcR, List.length_cons, List.length_nil, Nat.reduceAdd, List.getElem?_cons_zero, List.getElem?_cons_succ, List.set_cons_zero, List.set_cons_succ]
  refine ⟨_, rfl, by decide, ?_⟩
  have hn := hw.manyD
  have e1 : ((i : Int) + 1) = ((i + 1 : Nat) : Int) := by omega
  rw [e1, cut_take]
  refine ⟨?_, _, rfl, ?_⟩
  · simp only [List.length_take, List.length_map]
    exact sz1000 (by omega)
  rw [cut_drop]
  refine ⟨?_, by decide, by decide, ?_⟩
  · simp only [List.length_take, List.length_drop, List.length_map, List.length_append, List.length_cons, List.length_nil]
    exact sz1000 (by omega)
  · rw [← List.map_take, ← List.map_drop, show [eDd d'] = [d'].map eDd from rfl, ← List.map_append, ← List.map_append]
    exact hQ
end
theorem Keep.grow {a b : Addr} {st st' : Store} {o : Ob} (h : Keep a st st') (hb : b ≠ a) (hn : st b = none) : Keep a st (st'.set b o) := h.bump hn hb
/-- the wants with facts more -/
def wantsF (w : Wr) (c : Pr) : List Str := w.facts.filter fun f => decide (f ∈ c.a ++ w.facts.take 2) && decide (f ∉ c.b)
section
variable {a : Addr} {w : Wr} {p : Pl} {i : Nat} {d0 : Dd} {o4 o5 o6 o7 o18 o19 : Option D} {st : Store}
theorem ev_wants (hw : WfW w) (hd : WfDd w.facts d0) : Ev Γ (envH a w p i d0 o4 o5 o6 o7 o18 o19) st (.bi .tuple (.fr (.compif [19] (.var 19) (.of (.var 8)) (.bop true (.cons (.cmp .In (.var 19) (.bin .Add (.idx (.var 16) (.int 0)) (.slc (.var 8) .no (.at (.int 2))))) (.cons (.cmp .NotIn (.var 19) (.idx (.var 16) (.int 1))) .nil))) (.var 19))))
    (eS (wantsF w d0.cond)) := fun Q hQ => by
  simp only [den, denEs, denP, denO, envH, opR, slcR, List.length_cons, List.length_nil, Nat.reduceAdd, List.getElem?_cons_zero, List.getElem?_cons_succ, List.set_cons_zero, List.set_cons_succ]
  simp only [denI, den, items1, eS, asg, wipeE, denB, denO, List.getElem?_cons_zero, List.getElem?_cons_succ, List.set_cons_zero, List.set_cons_succ]
  have hA := hd.cond.okA hw.okS
  have hB := hd.cond.okB hw.okS
  have hAl := hd.cond.a.length_le
  have hfl := hw.len
  have hAF : OkS (d0.cond.a ++ w.facts.take 2) := ⟨fun f hf => by
    rcases List.mem_append.mp hf with z | z
    · exact hA.ok f z
    · exact hw.ok f (List.mem_of_mem_take z), by rw [List.length_append, List.length_take]; omega⟩
  refine turns_filter (c := fun d => decide (sof d ∈ d0.cond.a ++ w.facts.take 2) && decide (sof d ∉ d0.cond.b)) (g := id) _ [] (by rw [List.length_nil, List.length_map]; exact sz1000 (by omega)) (fun d hd' k q1 q2 => ?_) ?_
  · obtain ⟨f, hf, rfl⟩ := mem_mapS hd'
    have hfo := hw.ok f hf
    simp only [sof] at q1 q2
    unfold eP
    refine ix_tup0 ⟨2, rfl, ?_⟩
    have e2 : cutD (w.facts.map D.str) none (some 2) = (w.facts.map D.str).take 2 := cut_take 2
    simp only [slcR]
    rw [e2]
    simp only [eS, opR]
    refine ⟨by rw [List.length_map, List.length_take, List.length_map]; exact sz1000 (by omega), ?_⟩
    rw [← List.map_take, ← List.map_append]
    refine in_str (s := d0.cond.a ++ w.facts.take 2) hAF hfo ?_
    refine ⟨_, rfl, ?_⟩
    by_cases h : f ∈ d0.cond.a ++ w.facts.take 2
    · simp only [h, decide_true, if_true, Bool.true_and] at q1 q2 ⊢
      refine ix_tup1 (notin_str hB hfo ?_)
      refine ⟨_, rfl, ?_⟩
      by_cases h2 : f ∉ d0.cond.b
      · simp only [h2, not_false_eq_true, decide_true, if_true] at q1 ⊢; exact q1 trivial
      · simp only [h2, decide_false, Bool.false_eq_true, if_false] at q2 ⊢; exact q2 trivial
    · simp only [h, decide_false, Bool.false_and, Bool.false_eq_true, if_false] at q2 ⊢
      exact ⟨_, rfl, q2 trivial⟩
  · rw [List.nil_append, List.map_id, filter_mapS w.facts fun f => decide (f ∈ d0.cond.a ++ w.facts.take 2) && decide (f ∉ d0.cond.b)]
    exact ⟨_, rfl, hQ⟩
end
theorem wants_exch {w : Wr} {d0 : Dd} (hg : GoodDd w.facts d0) : Exch w d0 { d0 with cond := ⟨wantsF w d0.cond, d0.cond.b⟩ } := by
  refine ⟨⟨hg.wf.name, hg.wf.cost, ⟨List.filter_sublist, hg.wf.cond.b⟩, hg.wf.chs, hg.wf.ne, hg.wf.many⟩, Nat.le_refl _, hg.cost, holds_mono (fun f hf => ?_) fun f hf => hf, fun _ _ h => h⟩
  show f ∈ wantsF w d0.cond
  unfold wantsF
  rw [List.mem_filter]
  refine ⟨hg.wf.cond.a.subset hf, ?_⟩
  have := hg.dj f hf
  simp [hf, this]
theorem dear_exch {w : Wr} {d0 : Dd} (hg : GoodDd w.facts d0) {k : Nat} (h1 : d0.cost ≤ k) (h2 : k ≤ 1000) : Exch w d0 { d0 with cost := k } :=
  ⟨⟨hg.wf.name, Nat.le_trans hg.wf.cost h1, hg.wf.cond, hg.wf.chs, hg.wf.ne, hg.wf.many⟩, h1, h2, fun _ h => h, fun _ _ h => h⟩
theorem more_exch {w : Wr} {d0 : Dd} (hg : GoodDd w.facts d0) {c : Pr} (hc : WfPr w.facts c) : Exch w d0 { d0 with chs := d0.chs ++ [c] } := by
  refine ⟨⟨hg.wf.name, hg.wf.cost, hg.wf.cond, fun x hx => ?_, by simp, by have := hg.chs; simp; omega⟩, Nat.le_refl _, hg.cost, fun _ h => h, fun _ _ h => h.more⟩
  rcases List.mem_append.mp hx with z | z
  · exact hg.wf.chs x z
  · rw [List.mem_singleton.mp z]; exact hc
/-- the loop over the deeds exchanged -/
theorem harder_1 {K : Kn} {a f : Addr} {w : Wr} {p : Pl} {i : Nat} {d0 : Dd} {F : List D} {Os : List Dd} {o5 o7 o18 o19 : Option D} {st0 st : Store} (hw : GoodW 3 w) (hi : w.deeds[i]? = some d0) (hp3 : p.s ≤ 3 ∧ p.m ≤ 3) (hO : ∀ d ∈ Os, Exch w d0 d) (hOl : Os.length ≤ 3) (hF : ∀ d ∈ F, HardOk w p d) (hFl : F.length = 3) (hf : st f = some (.lst F)) (hk : Keep a st0 st) (nfa : f ≠ a) (hf0 : st0 f = none)
    (hK : ∀ o7 F' st', (∀ d ∈ F', HardOk w p d) → F'.length ≤ 6 → st' f = some (.lst F') → Keep a st0 st' → K.nx (envH a w p i d0 (some (.loc f)) o5 (some (.lst (Os.map eDd))) o7 o18 o19) st') :
    forL (.var 7) (fun ρ st K => denSs Γ X0 b__law_harder_1 K ρ st) K CT (Os.map eDd) (envH a w p i d0 (some (.loc f)) o5 (some (.lst (Os.map eDd))) o7 o18 o19) st := by
  have hcost : ∀ d ∈ w.deeds, d.cost ≤ 1000 := fun d hd => (hw.deeds d hd).cost
  refine forL_inv (fun j ρ st' => ∃ o7 F', ρ = envH a w p i d0 (some (.loc f)) o5 (some (.lst (Os.map eDd))) o7 o18 o19 ∧ (∀ d ∈ F', HardOk w p d) ∧ F'.length = 3 + j ∧ j ≤ Os.length ∧ st' f = some (.lst F') ∧ Keep a st0 st') _ 0 _ _ ⟨_, F, rfl, hF, by omega, Nat.zero_le _, hf, hk⟩ ?_ ?_
  · rintro j d ρ st1 N hj ⟨o7, F', rfl, h1, h2, _, h3, h4⟩ hN
    rw [Nat.zero_add] at hN h2
    have hjl : j < Os.length := by
      have := (List.getElem?_eq_some_iff.mp hj).1
      rwa [List.length_map] at this
    rw [List.getElem?_map, Option.map_eq_some_iff] at hj
    obtain ⟨d', hj, rfl⟩ := hj
    have hx := hO d' (List.mem_of_getElem? hj)
    show denSs Γ X0 _ _ (envH a w p i d0 (some (.loc f)) o5 (some (.lst (Os.map eDd))) (some (eDd d')) o18 o19) st1
    unfold b__law_harder_1
    refine cons_exp (app_ev (f := f) rfl h3 (by omega) (ev_exch hw.wf) ?_)
    rw [denSs]
    obtain ⟨e1, e2⟩ := exch_hard hw.wf hi hx.wf hx.c hx.h hx.e
    refine hN _ _ ⟨_, _, rfl, fun x hx' => ?_, by rw [List.length_append, h2]; simp; omega, by omega, Store.set_same, h4.bump hf0 nfa⟩
    rcases List.mem_append.mp hx' with z | z
    · exact h1 x z
    · rw [List.mem_singleton.mp z]
      refine HardOk.mk ⟨e1, e2⟩ rfl (fun y hy => ?_) rfl (Nat.le_refl _) (Nat.le_refl _) hp3.1 hp3.2
      rcases List.mem_append.mp hy with z | z
      · rcases List.mem_append.mp z with z | z
        · exact hcost y (List.mem_of_mem_take z)
        · rw [List.mem_singleton.mp z]; exact hx.c2
      · exact hcost y (List.mem_of_mem_drop z)
  · rintro ρ st1 ⟨o7, F', rfl, h1, h2, _, h3, h4⟩
    rw [Nat.zero_add, List.length_map] at h2
    exact hK o7 F' st1 h1 (by omega) h3 h4
theorem zz_ok : PyData.strOk ("zz" : Str) = true := by decide +kernel
theorem d__law_harder (h1 : Γ.fn "_law_draw" = some sp__law_draw) (h2 : Γ.fn "_law_pair" = some sp__law_pair) : Does Γ 20 3 b__law_harder sp__law_harder := by
  rintro ds st P ⟨a, w, p, rfl, hw, hp, hs, hm, hd, hP⟩
  refine ⟨rfl, ?_⟩
  have hwf := hw.wf
  have hcost : ∀ d ∈ w.deeds, d.cost ≤ 1000 := fun d hd => (hw.deeds d hd).cost
  unfold b__law_harder startE
  rw [denSs, denS]
  simp only [den, eW_eq, asg, asgs, List.map_cons, List.map_nil, List.cons_append, List.nil_append, List.length_cons, List.length_nil, List.replicate, Nat.reduceAdd, Nat.reduceSub, List.getElem?_cons_zero, List.getElem?_cons_succ, List.set_cons_zero, List.set_cons_succ]
  rw [← eW_eq]
  rw [denSs, denS]
  simp only [den, ePl, asg, asgs, List.getElem?_cons_zero, List.getElem?_cons_succ, List.set_cons_zero, List.set_cons_succ]
  have epl : ePl p = .tup [eS p.st, .int p.s, .int p.m] := rfl
  rw [← epl]
  rw [denSs, denS]
  simp only [den, denEs, h1, asg, List.getElem?_cons_zero, List.getElem?_cons_succ, List.set_cons_zero, List.set_cons_succ]
  refine len_tup ⟨a, _, rfl, ?_, ?_, hd, fun r st1 hr0 hr1 hk1 => ?_⟩
  · have := hw.many.1
    rw [List.length_map]; omega
  · have := hw.many.2
    rw [List.length_map]; omega
  rw [List.length_map] at hr1
  obtain ⟨i, rfl⟩ : ∃ i : Nat, r = i := ⟨r.toNat, by omega⟩
  have hil : i < w.deeds.length := by omega
  have hi : w.deeds[i]? = some w.deeds[i] := List.getElem?_eq_getElem hil
  generalize w.deeds[i] = d0 at hi
  have hg0 := hw.deeds d0 (List.mem_of_getElem? hi)
  rw [denSs, denS]
  simp only [den, asg, List.getElem?_cons_zero, List.getElem?_cons_succ]
  refine ix_tupk (d := eDd d0) (at_nat (by rw [List.getElem?_map, hi]; rfl)) ?_
  simp only [eDd, asgs, asg, List.set_cons_zero, List.set_cons_succ]
  show denSs Γ X0 _ _ (envH a w p i d0 none none none none none none) st1
  obtain ⟨u0, v0, ea⟩ := hd
  -- the first two
  rw [denSs, denS]
  simp only [den, denEs, denP, denO, envH, opR, slcR, List.length_cons, List.length_nil, Nat.reduceAdd, List.getElem?_cons_zero, List.getElem?_cons_succ, List.set_cons_zero, List.set_cons_succ]
  refine ⟨by decide, by decide, by decide, by decide, by decide, fun f hf => ?_⟩
  have nfa : f ≠ a := fun z => by obtain ⟨u1, v1, e1⟩ := hk1.dr; rw [z, e1] at hf; cases hf
  have hf0 : st f = none := by
    cases z : st f with
    | none => rfl
    | some o => rw [hk1.ob f o nfa z] at hf; cases hf
  simp only [asg, List.set_cons_zero, List.set_cons_succ]
  have eS1 : ((p.s : Int) + 1) = ((p.s + 1 : Nat) : Int) := by omega
  have eM1 : ((p.m : Int) + 1) = ((p.m + 1 : Nat) : Int) := by omega
  rw [eS1, eM1]
  have hF0 : ∀ d ∈ [D.tup [eW w, .tup [eS p.st, .int (p.s + 1 : Nat), .int p.m]], .tup [eW w, .tup [eS p.st, .int p.s, .int (p.m + 1 : Nat)]]], HardOk w p d := by
    intro d hd
    simp only [List.mem_cons, List.not_mem_nil, or_false] at hd
    rcases hd with rfl | rfl
    · exact HardOk.mk (p' := ⟨p.st, p.s + 1, p.m⟩) ⟨hwf, Harder.refl w⟩ rfl hcost rfl (Nat.le_succ _) (Nat.le_refl _) (by show p.s + 1 ≤ 3; omega) (by show p.m ≤ 3; omega)
    · exact HardOk.mk (p' := ⟨p.st, p.s, p.m + 1⟩) ⟨hwf, Harder.refl w⟩ rfl hcost rfl (Nat.le_refl _) (Nat.le_succ _) (by show p.s ≤ 3; omega) (by show p.m + 1 ≤ 3; omega)
  generalize hF : [D.tup [eW w, .tup [eS p.st, .int (p.s + 1 : Nat), .int p.m]], .tup [eW w, .tup [eS p.st, .int p.s, .int (p.m + 1 : Nat)]]] = F0 at hF0
  have hF0l : F0.length = 2 := by rw [← hF]; rfl
  have hk2 : Keep a st (st1.set f (.lst F0)) := hk1.bump hf0 nfa
  generalize hst2 : st1.set f (.lst F0) = st2 at hk2
  have hf2 : st2 f = some (.lst F0) := by rw [← hst2]; exact Store.set_same
  -- one deed left out
  refine cons_exp (app_ev (f := f) rfl hf2 (by omega) (ev_less hwf) ?_)
  have hk3 : Keep a st (st2.set f (.lst (F0 ++ [.tup [eW { w with deeds := w.deeds.take i ++ w.deeds.drop (i + 1) }, ePl p]]))) := hk2.bump hf0 nfa
  have hF1 : ∀ d ∈ F0 ++ [.tup [eW { w with deeds := w.deeds.take i ++ w.deeds.drop (i + 1) }, ePl p]], HardOk w p d := by
    intro d hd
    rcases List.mem_append.mp hd with z | z
    · exact hF0 d z
    · rw [List.mem_singleton.mp z]
      refine HardOk.mk (less_hard hwf i) rfl (fun x hx => ?_) rfl (Nat.le_refl _) (Nat.le_refl _) (by omega) (by omega)
      rcases List.mem_append.mp hx with z | z
      · exact hcost x (List.mem_of_mem_take z)
      · exact hcost x (List.mem_of_mem_drop z)
  generalize hFe1 : F0 ++ [.tup [eW { w with deeds := w.deeds.take i ++ w.deeds.drop (i + 1) }, ePl p]] = F1 at hk3 hF1
  have hF1l : F1.length = 3 := by rw [← hFe1, List.length_append, hF0l]; rfl
  generalize hst3 : st2.set f (.lst F1) = st3 at hk3
  have hf3 : st3 f = some (.lst F1) := by rw [← hst3]; exact Store.set_same
  -- the deeds exchanged
  refine cons_asg (eS (wantsF w d0.cond)) (ev_wants hwf hg0.wf) ?_
  show denSs Γ X0 _ _ (envH a w p i d0 (some (.loc f)) (some (eS (wantsF w d0.cond))) none none none none) st3
  rw [denSs, denS]
  simp only [den, denEs, denP, denO, envH, opR, slcR, List.length_cons, List.length_nil, Nat.reduceAdd, List.getElem?_cons_zero, List.getElem?_cons_succ, List.set_cons_zero, List.set_cons_succ]
  simp only [eP]
  refine ix_tup1 ⟨by decide, by decide, ?_⟩
  refine ⟨1000, _, rfl, rfl, by decide, by decide, fun o ho => ?_⟩
  have noa : o ≠ a := fun z => by obtain ⟨u1, v1, e1⟩ := hk3.dr; rw [z, e1] at ho; cases ho
  have nof : o ≠ f := fun z => by rw [z, hf3] at ho; cases ho
  have ho0 : st o = none := by
    cases z : st o with
    | none => rfl
    | some o' => rw [hk3.ob o o' noa z] at ho; cases ho
  have e1000 : (if ((d0.cost : Int) + 1) < 1000 then (d0.cost : Int) + 1 else 1000) = ((if d0.cost + 1 < 1000 then d0.cost + 1 else 1000 : Nat) : Int) := by split <;> split <;> omega
  simp only [Bool.false_eq_true, if_false, e1000]
  generalize hk1000 : (if d0.cost + 1 < 1000 then d0.cost + 1 else 1000 : Nat) = kc
  have hkc : d0.cost ≤ kc ∧ kc ≤ 1000 := by have := hg0.cost; rw [← hk1000]; split <;> omega
  have eO2 : [D.tup [.str d0.name, .int d0.cost, .tup [eS (wantsF w d0.cond), eS d0.cond.b], .tup (d0.chs.map eP)], .tup [.str d0.name, .int kc, .tup [eS d0.cond.a, eS d0.cond.b], .tup (d0.chs.map eP)]] =
      [{ d0 with cond := ⟨wantsF w d0.cond, d0.cond.b⟩ }, { d0 with cost := kc }].map eDd := rfl
  rw [eO2]
  have hO2 : ∀ d ∈ [{ d0 with cond := ⟨wantsF w d0.cond, d0.cond.b⟩ }, { d0 with cost := kc }], Exch w d0 d := by
    intro d hd
    simp only [List.mem_cons, List.not_mem_nil, or_false] at hd
    rcases hd with rfl | rfl
    · exact wants_exch hg0
    · exact dear_exch hg0 hkc.1 hkc.2
  generalize hO : [{ d0 with cond := ⟨wantsF w d0.cond, d0.cond.b⟩ }, { d0 with cost := kc }] = O2 at hO2
  have hO2l : O2.length = 2 := by rw [← hO]; rfl
  clear eO2
  have hk4 : Keep a st (st3.set o (.lst (O2.map eDd))) := hk3.bump ho0 noa
  have hf4 : (st3.set o (.lst (O2.map eDd))) f = some (.lst F1) := by rw [set_ne (Ne.symm nof)]; exact hf3
  have ho4 : (st3.set o (.lst (O2.map eDd))) o = some (.lst (O2.map eDd)) := Store.set_same
  generalize st3.set o (.lst (O2.map eDd)) = st4 at hk4 hf4 ho4 ⊢
  show denSs Γ X0 _ _ (envH a w p i d0 (some (.loc f)) (some (eS (wantsF w d0.cond))) (some (.loc o)) none none none) st4
  -- the end
  have fin : ∀ (F : List D) (o6 o7 o18 o19 : Option D) (s : Store), (∀ d ∈ F, HardOk w p d) → F.length ≤ 7 → s f = some (.lst F) → Keep a st s →
      denSs Γ X0 (.cons (.ret (.frz (.var 4))) .nil) { nx := fun _ st => P .non st, rt := P } (envH a w p i d0 (some (.loc f)) (some (eS (wantsF w d0.cond))) o6 o7 o18 o19) s := by
    intro F o6 o7 o18 o19 s hF hl hs hk
    rw [denSs, denS]
    simp only [den, denEs, denP, denO, envH, opR, slcR, List.length_cons, List.length_nil, Nat.reduceAdd, List.getElem?_cons_zero, List.getElem?_cons_succ, List.set_cons_zero, List.set_cons_succ]
    refine ⟨fun b => if b = f then none else s b, .lst F, fun b ob e => ?_, .loc hs (if_pos rfl) ?_, hP F _ hF (by omega) ⟨?_, fun b ob n e => ?_⟩⟩
    · simp only at e
      split at e
      · cases e
      · exact e
    · clear hF hl hs
      induction F with
      | nil => exact .nil
      | cons x xs ih => exact .cons (.refl _) ih
    · obtain ⟨u, v, e⟩ := hk.dr
      exact ⟨u, v, by show (if a = f then none else s a) = _; rw [if_neg (Ne.symm nfa)]; exact e⟩
    · show (if b = f then none else s b) = some ob
      rw [if_neg (fun z => by rw [z, hf0] at e; cases e)]
      exact hk.ob b ob n e
  have meds : ∀ (F : List D) (o6 o7 : Option D) (s : Store), (∀ d ∈ F, HardOk w p d) → F.length ≤ 6 → s f = some (.lst F) → Keep a st s →
      denSs Γ X0 (.cons (.ife (.cmp .Lt (.bi .len (.var 10)) (.int 4)) (.cons (.asg (.var 18) (.bin .Add (.var 10) (.tup (.cons (.tup (.cons (.str "zz") (.cons (.call "_law_pair" (.cons (.var 0) (.cons (.var 8) (.cons (.int 4) .nil)))) (.cons (.call "_law_pair" (.cons (.var 0) (.cons (.var 8) (.cons (.int 4) .nil)))) .nil)))) .nil)))) (.cons (.exp (.app (.var 4) (.tup (.cons (.tup (.cons (.var 8) (.cons (.var 9) (.cons (.var 18) .nil)))) (.cons (.var 2) .nil))))) .nil)) .nil) (.cons (.ret (.frz (.var 4))) .nil))
        { nx := fun _ st => P .non st, rt := P } (envH a w p i d0 (some (.loc f)) (some (eS (wantsF w d0.cond))) o6 o7 none none) s := by
    intro F o6 o7 s hF hl hs' hk
    refine cons_ife (decide (w.meds.length < 4)) (fun Q hQ => ?_) ?_
    · simp only [den, denEs, denP, denO, envH, opR, slcR, List.length_cons, List.length_nil, Nat.reduceAdd, List.getElem?_cons_zero, List.getElem?_cons_succ, List.set_cons_zero, List.set_cons_succ]
      refine len_tup (lt_ev ?_)
      rw [List.length_map]
      have : decide ((w.meds.length : Int) < 4) = decide (w.meds.length < 4) := by simp; omega
      rw [this]; exact hQ
    by_cases hm4 : w.meds.length < 4
    · simp only [hm4, decide_true, if_true]
      rw [denSs, denS]
      simp only [den, denEs, denP, denO, envH, opR, slcR, List.length_cons, List.length_nil, Nat.reduceAdd, List.getElem?_cons_zero, List.getElem?_cons_succ, List.set_cons_zero, List.set_cons_succ]
      simp only [h2]
      have pairT : ∀ ps ts, PairOf (w.facts.map D.str) ps ts → ∃ c : Pr, pairD ps ts = eP c ∧ WfPr w.facts c ∧ Disj c := fun ps ts h => pair_typed hwf.nodup h
      refine ⟨a, w.facts.map D.str, 4, rfl, by rw [List.length_map]; have := hwf.len; omega, by decide, by decide, hk.dr, fun ps ts s1 hp1 hk1' => ?_⟩
      refine ⟨a, w.facts.map D.str, 4, rfl, by rw [List.length_map]; have := hwf.len; omega, by decide, by decide, hk1'.dr, fun ps' ts' s2 hp2 hk2' => ?_⟩
      obtain ⟨c1, e1, wc1, _⟩ := pairT ps ts hp1
      obtain ⟨c2, e2, wc2, _⟩ := pairT ps' ts' hp2
      rw [e1, e2]
      have hs2 : s2 f = some (.lst F) := hk2'.ob f _ nfa (hk1'.ob f _ nfa hs')
      refine ⟨by decide, by decide, by rw [List.length_map]; exact sz1000 (by omega), ?_⟩
      have em : w.meds.map eMd ++ [D.tup [.str "zz", eP c1, eP c2]] = (w.meds ++ [(⟨"zz", c1, c2⟩ : Md)]).map eMd := by rw [List.map_append]; rfl
      rw [em]
      show denSs Γ X0 _ _ (envH a w p i d0 (some (.loc f)) (some (eS (wantsF w d0.cond))) o6 o7 (some (.tup ((w.meds ++ [(⟨"zz", c1, c2⟩ : Md)]).map eMd))) none) s2
      refine cons_exp (app_ev (f := f) (d := .tup [eW { w with meds := w.meds ++ [(⟨"zz", c1, c2⟩ : Md)] }, ePl p]) rfl hs2 (by omega) (fun Q hQ => by (simp only [den, denEs, denP, denO, envH, opR, slcR, List.length_cons, List.length_nil, Nat.reduceAdd, List.getElem?_cons_zero, List.getElem?_cons_succ, List.set_cons_zero, List.set_cons_succ]); exact ⟨by decide, by decide, hQ⟩) ?_)
      simp only [denSs]
      have mh := more_hard hwf (m := ⟨"zz", c1, c2⟩) ⟨zz_ok, wc1, wc2⟩ (by omega)
      refine fin (F ++ [.tup [eW { w with meds := w.meds ++ [(⟨"zz", c1, c2⟩ : Md)] }, ePl p]]) o6 o7 (some (.tup ((w.meds ++ [(⟨"zz", c1, c2⟩ : Md)]).map eMd))) none _ (fun d hd => ?_) (by rw [List.length_append]; simp; omega) Store.set_same ((hk.trans (hk1'.trans hk2')).bump hf0 nfa)
      rcases List.mem_append.mp hd with z | z
      · exact hF d z
      · rw [List.mem_singleton.mp z]
        exact HardOk.mk mh rfl hcost rfl (Nat.le_refl _) (Nat.le_refl _) (by omega) (by omega)
    · simp only [hm4, decide_false, Bool.false_eq_true, if_false]
      rw [denSs]
      exact fin F o6 o7 none none s hF (by omega) hs' hk
  have tail : ∀ (Os : List Dd) (s : Store), (∀ d ∈ Os, Exch w d0 d) → Os.length ≤ 3 → s o = some (.lst (Os.map eDd)) → s f = some (.lst F1) → Keep a st s →
      denSs Γ X0 (.cons (.gfz 6) (.cons (.for (.var 7) (.of (.var 6)) b__law_harder_1) (.cons (.ife (.cmp .Lt (.bi .len (.var 10)) (.int 4)) (.cons (.asg (.var 18) (.bin .Add (.var 10) (.tup (.cons (.tup (.cons (.str "zz") (.cons (.call "_law_pair" (.cons (.var 0) (.cons (.var 8) (.cons (.int 4) .nil)))) (.cons (.call "_law_pair" (.cons (.var 0) (.cons (.var 8) (.cons (.int 4) .nil)))) .nil)))) .nil)))) (.cons (.exp (.app (.var 4) (.tup (.cons (.tup (.cons (.var 8) (.cons (.var 9) (.cons (.var 18) .nil)))) (.cons (.var 2) .nil))))) .nil)) .nil) (.cons (.ret (.frz (.var 4))) .nil))))
        { nx := fun _ st => P .non st, rt := P } (envH a w p i d0 (some (.loc f)) (some (eS (wantsF w d0.cond))) (some (.loc o)) none none none) s := by
    intro Os s hO hOl hs1 hs2 hk
    rw [denSs, denS]
    simp only [den, denEs, denP, denO, envH, opR, slcR, List.length_cons, List.length_nil, Nat.reduceAdd, List.getElem?_cons_zero, List.getElem?_cons_succ, List.set_cons_zero, List.set_cons_succ]
    refine ⟨fun b => if b = o then none else s b, .lst (Os.map eDd), fun b ob e => ?_, .loc hs1 (if_pos rfl) ?_, ?_⟩
    · simp only at e
      split at e
      · cases e
      · exact e
    · clear hO hOl hs1
      induction Os with
      | nil => exact .nil
      | cons x xs ih => exact .cons (.refl _) ih
    have hk' : Keep a st (fun b => if b = o then none else s b) := ⟨by
      obtain ⟨u, v, e⟩ := hk.dr
      exact ⟨u, v, by show (if a = o then none else s a) = _; rw [if_neg (Ne.symm noa)]; exact e⟩, fun b ob n e => by
      show (if b = o then none else s b) = some ob
      rw [if_neg (fun z => by rw [z, ho0] at e; cases e)]
      exact hk.ob b ob n e⟩
    have hs2' : (fun b => if b = o then none else s b : Store) f = some (.lst F1) := by show (if f = o then none else s f) = _; rw [if_neg (Ne.symm nof)]; exact hs2
    generalize (fun b => if b = o then none else s b : Store) = s' at hk' hs2'
    show denSs Γ X0 _ _ (envH a w p i d0 (some (.loc f)) (some (eS (wantsF w d0.cond))) (some (.lst (Os.map eDd))) none none none) s'
    rw [denSs, denS]
    simp only [denI, den]
    show match items1 (.lst (Os.map eDd)) with | some xs => forL _ _ _ CT xs _ s' | none => False
    refine harder_1 hw hi ⟨by omega, by omega⟩ hO hOl hF1 hF1l hs2' hk' nfa hf0 fun o7 F' st' q1 q2 q3 q4 => ?_
    exact meds F' (some (.lst (Os.map eDd))) o7 st' q1 q2 q3 q4
  refine cons_ife (decide (d0.chs.length < 3)) (fun Q hQ => ?_) ?_
  · simp only [den, denEs, denP, denO, envH, opR, slcR, List.length_cons, List.length_nil, Nat.reduceAdd, List.getElem?_cons_zero, List.getElem?_cons_succ, List.set_cons_zero, List.set_cons_succ]
    refine len_tup (lt_ev ?_)
    rw [List.length_map]
    have : decide ((d0.chs.length : Int) < 3) = decide (d0.chs.length < 3) := by simp; omega
    rw [this]; exact hQ
  by_cases hc3 : d0.chs.length < 3
  · simp only [hc3, decide_true, if_true]
    rw [denSs, denS]
    simp only [den, denEs, denP, denO, envH, opR, slcR, List.length_cons, List.length_nil, Nat.reduceAdd, List.getElem?_cons_zero, List.getElem?_cons_succ, List.set_cons_zero, List.set_cons_succ]
    simp only [h2]
    refine ⟨o, _, rfl, ho4, a, w.facts.map D.str, 3, rfl, by rw [List.length_map]; have := hwf.len; omega, by decide, by decide, hk4.dr, fun ps ts s1 hp1 hk1' => ?_⟩
    obtain ⟨c1, e1, wc1, _⟩ := pair_typed hwf.nodup hp1
    rw [e1]
    refine ⟨by decide, by rw [List.length_map]; exact sz1000 (by omega), by decide, _, hk1'.ob o _ noa ho4, by rw [List.length_map, hO2l]; decide, ?_⟩
    have eO3 : O2.map eDd ++ [D.tup [.str d0.name, .int d0.cost, eP d0.cond, .tup (d0.chs.map eP ++ [eP c1])]] = (O2 ++ [{ d0 with chs := d0.chs ++ [c1] }]).map eDd := by
      rw [List.map_append]
      congr 1
      unfold eDd
      simp [List.map_append]
    rw [eO3]
    simp only [denSs]
    refine tail _ _ (fun d hd => ?_) (by rw [List.length_append, hO2l]; simp) Store.set_same (by rw [set_ne (Ne.symm nof)]; exact hk1'.ob f _ nfa hf4) ((hk4.trans hk1').bump ho0 noa)
    rcases List.mem_append.mp hd with z | z
    · exact hO2 d z
    · rw [List.mem_singleton.mp z]; exact more_exch hg0 wc1
  · simp only [hc3, decide_false, Bool.false_eq_true, if_false]
    rw [denSs]
    exact tail _ _ hO2 (by omega) ho4 hf4 hk4
/-! ### the law -/
theorem cap3 {w : Wr} (hf : w.facts.length ≤ 3) (hc : ∀ d ∈ w.deeds, d.cost ≤ 1000) {S M : Nat} (hS : S ≤ 3) (hM : M ≤ 3) : Cap w 1000 S M := by
  refine ⟨hc, ?_⟩
  have h : (placesF w S M).length ≤ 128 := by
    rw [places_len]
    have : 2 ^ w.facts.length ≤ 8 := Nat.pow_le_pow_right (n := 2) (by decide) hf
    exact Nat.mul_le_mul this (Nat.mul_le_mul (show S + 1 ≤ 4 by omega) (show M + 1 ≤ 4 by omega))
  have h2 := tri_mono (C := 1000) h
  have h3 : 128 + tri 1000 128 < sizeLine := by decide +kernel
  omega
theorem win_zero {w : Wr} {g : Pr} {p : Pl} {c : C2} (h : WinW w g none p c) : ∃ k, WinW w g none p (0, k) := by
  induction h with
  | goal g => exact ⟨0, .goal g⟩
  | step a b e ih =>
    rename_i p pr qs c c'
    obtain ⟨d, hd, h1, e1⟩ := gstep_mem.mp a
    cases e1
    have : ∀ l : List Pl, (∀ q ∈ l, ∃ k, WinW w g none q (0, k)) → ∃ K, ∀ q ∈ l, WinW w g none q (0, K) := by
      intro l
      induction l with
      | nil => exact fun _ => ⟨0, fun q hq => by cases hq⟩
      | cons q l ihl =>
        intro h
        obtain ⟨k, hk⟩ := h q List.mem_cons_self
        obtain ⟨K, hK⟩ := ihl fun r hr => h r (List.mem_cons_of_mem _ hr)
        refine ⟨k + K, fun r hr => ?_⟩
        rcases List.mem_cons.mp hr with rfl | hr
        · exact hk.mono (by rw [cLe_iff]; exact .inr ⟨rfl, by simp⟩)
        · exact (hK r hr).mono (by rw [cLe_iff]; exact .inr ⟨rfl, by simp⟩)
    obtain ⟨K, hK⟩ := this _ ih
    exact ⟨d.cost + K, .step a hK (by rw [cLe_iff]; exact .inr ⟨rfl, Nat.le_refl _⟩)⟩
theorem least_zero {w : Wr} {g : Pr} {p : Pl} {c : C2} (h : LeastW w g none p (some c)) : c.1 = 0 := by
  obtain ⟨k, hk⟩ := win_zero h.1
  have := h.2 _ hk
  rw [cLe_iff] at this
  simp only at this
  omega
theorem atLeast_ok {w w' : Wr} {g g' : Pr} {p p' : Pl} {o o' : Option C2} (h : LeastW w g none p o) (h' : LeastW w' g' none p' o') (k : AtLeast o' o) : atLeastB (o'.map (·.2)) (o.map (·.2)) = true := by
  cases o' with
  | none => rfl
  | some x => cases o with
    | none => exact k.elim
    | some y =>
      have z1 := least_zero h
      have z2 := least_zero h'
      have k : cLe y x := k
      rw [cLe_iff] at k
      simp only [Option.map_some, atLeastB, decide_eq_true_eq]
      omega
def envL (xs : List D) (o1 : Option D) (a : Addr) (found : D) (o4 o5 o6 o7 : Option D) (w : Wr) (g : Pr) (p : Pl) (o14 o15 o16 : Option D) : Env :=
  [some (.ro xs), o1, some (.loc a), some found, o4, o5, o6, o7, some (eW w), some (eP g), some (ePl p), some (eS w.facts), some (.tup (w.deeds.map eDd)), some (.tup (w.meds.map eMd)), o14, o15, o16]
structure Kn14 (Γ : Ctx) : Prop where
  least : Γ.fn "least" = some sp_least
  atLeast : Γ.fn "_law_at_least" = some sp__law_at_least
  draws : Γ.fn "_law_draws" = some sp__law_draws
  case_ : Γ.fn "_law_case" = some sp__law_case
  harder : Γ.fn "_law_harder" = some sp__law_harder
theorem law14_1 (k : Kn14 Γ) {K : Kn} {xs : List D} {a : Addr} {o1 o4 o5 o6 o7 o14 o15 o16 : Option D} {w : Wr} {g : Pr} {p : Pl} {o : Option C2} {L : List D} {st : Store} (hf : w.facts.length ≤ 3) (hg : WfPr w.facts g) (hp : p.st.Sublist w.facts) (ho : LeastW w g none p o) (hL : ∀ d ∈ L, HardOk w p d)
    (hK : ∀ o14 o15 st', Ext st st' → K.nx (envL xs o1 a (eN (o.map (·.2))) o4 o5 o6 o7 w g p o14 o15 o16) st') :
    forL (.tup (.cons (.var 14) (.cons (.var 15) .nil))) (fun ρ st K => denSs Γ X0 b14_law_1 K ρ st) K CT L (envL xs o1 a (eN (o.map (·.2))) o4 o5 o6 o7 w g p o14 o15 o16) st := by
  refine forL_inv (fun j ρ st' => ∃ o14 o15, ρ = envL xs o1 a (eN (o.map (·.2))) o4 o5 o6 o7 w g p o14 o15 o16 ∧ Ext st st') _ 0 _ _ ⟨_, _, rfl, Ext.refl _⟩ ?_ ?_
  · rintro j d ρ st1 N hj ⟨o14, o15, rfl, hx⟩ hN
    obtain ⟨w', p', rfl, h1, h2, h3, h4, h5, h6, h7, h8, h9⟩ := hL d (List.mem_of_getElem? hj)
    simp only [asg, asgs, envL, List.set_cons_zero, List.set_cons_succ]
    unfold b14_law_1
    try simp only [denSs, denS, den, denB, denP, denI, denEs, denO, asg, asgs, wipeE, items1, eS, List.map_cons, List.map_nil, List.cons_append, List.nil_append, List.length_cons, List.length_nil, List.replicate, Nat.add_zero, Nat.zero_add, Nat.reduceAdd, Nat.reduceSub, List.getElem?_cons_zero, List.getElem?_cons_succ, List.set_cons_zero, List.set_cons_succ, if_true, if_false, Bool.false_eq_true, reduceCtorEq]
    rw [k.least]
    refine ⟨w', g, p', 1000, rfl, h1, by rw [h3]; exact hg, by rw [h3, h5]; exact hp, by omega, by omega, cap3 (by rw [h3]; exact hf) h4 h8 h9, fun o' st2 ho' _ hx2 => ?_⟩
    rw [k.atLeast]
    refine ⟨_, _, rfl, _, rfl, ?_⟩
    rw [atLeast_ok ho ho' (harder_least h2 (fun _ h => h) h5 h6 h7 ho ho')]
    refine ⟨_, rfl, ?_⟩
    simp only [Bool.not_true, Bool.false_eq_true, if_false]
    exact hN _ _ ⟨_, _, rfl, hx.trans hx2⟩
  · rintro ρ st1 ⟨o14, o15, rfl, hx⟩
    exact hK _ _ _ hx
theorem law14_2 (k : Kn14 Γ) {K : Kn} {xs : List D} {a : Addr} {o1 o4 o5 o6 o7 o14 o15 o16 : Option D} {w : Wr} {g : Pr} {p : Pl} {o : Option C2} {L : List D} {st : Store} (hw : WfW w) (hf : w.facts.length ≤ 3) (hc : ∀ d ∈ w.deeds, d.cost ≤ 1000) (hp : p.st.Sublist w.facts) (hs : p.s ≤ 3) (hm : p.m ≤ 3) (ho : LeastW w g none p o)
    (hL : ∀ d ∈ L, ∃ g', d = eP g' ∧ WfPr w.facts g' ∧ ∀ s, holdsB g s = true → holdsB g' s = true)
    (hK : ∀ o4 st', Ext st st' → K.nx (envL xs o1 a (eN (o.map (·.2))) o4 o5 o6 o7 w g p o14 o15 o16) st') :
    forL (.var 4) (fun ρ st K => denSs Γ X0 b14_law_2 K ρ st) K CT L (envL xs o1 a (eN (o.map (·.2))) o4 o5 o6 o7 w g p o14 o15 o16) st := by
  refine forL_inv (fun j ρ st' => ∃ o4, ρ = envL xs o1 a (eN (o.map (·.2))) o4 o5 o6 o7 w g p o14 o15 o16 ∧ Ext st st') _ 0 _ _ ⟨_, rfl, Ext.refl _⟩ ?_ ?_
  · rintro j d ρ st1 N hj ⟨o4, rfl, hx⟩ hN
    obtain ⟨g', rfl, h1, h2⟩ := hL d (List.mem_of_getElem? hj)
    simp only [asg, asgs, envL, List.set_cons_zero, List.set_cons_succ]
    unfold b14_law_2
    try simp only [denSs, denS, den, denB, denP, denI, denEs, denO, asg, asgs, wipeE, items1, eS, List.map_cons, List.map_nil, List.cons_append, List.nil_append, List.length_cons, List.length_nil, List.replicate, Nat.add_zero, Nat.zero_add, Nat.reduceAdd, Nat.reduceSub, List.getElem?_cons_zero, List.getElem?_cons_succ, List.set_cons_zero, List.set_cons_succ, if_true, if_false, Bool.false_eq_true, reduceCtorEq]
    rw [k.least]
    refine ⟨w, g', p, 1000, rfl, hw, h1, hp, by omega, by omega, cap3 hf hc hs hm, fun o' st2 ho' _ hx2 => ?_⟩
    rw [k.atLeast]
    refine ⟨_, _, rfl, _, rfl, ?_⟩
    rw [atLeast_ok ho' ho (harder_least (Harder.refl w) h2 rfl (Nat.le_refl _) (Nat.le_refl _) ho' ho)]
    refine ⟨_, rfl, ?_⟩
    simp only [Bool.not_true, Bool.false_eq_true, if_false]
    exact hN _ _ ⟨_, rfl, hx.trans hx2⟩
  · rintro ρ st1 ⟨o4, rfl, hx⟩
    exact hK _ _ hx
/-- deeds with other costs -/
theorem deed_cheap {d : Dd} : D.tup [.str d.name, .int (1 + (d.cost : Int) % 100), eP d.cond, .tup (d.chs.map eP)] = eDd { d with cost := 1 + d.cost % 100 } := by
  unfold eDd
  simp only
  have : (1 + (d.cost : Int) % 100) = ((1 + d.cost % 100 : Nat) : Int) := by omega
  rw [this]
def cheapD (d : Dd) : Dd := { d with cost := 1 + d.cost % 100 }
def plainD (d : Dd) : Dd := { d with chs := d.chs.take 1 }
theorem comp_map {C : Store → Prop} {f : D → Store → (Option D → Store → Prop) → Prop} {α : Type} {e e' : α → D} (l : List α) {st : Store} {Q : List D → Store → Prop} (hl : l.length ≤ 1000) (h : ∀ x ∈ l, ∀ k : Option D → Store → Prop, k (some (e' x)) st → f (e x) st k) (q : Q (l.map e') st) (hC : C st := by trivial) : turns C f (l.map e) st [] Q := by
  have go : ∀ (l : List α) (acc : List D), acc.length + l.length ≤ 1000 → (∀ x ∈ l, ∀ k : Option D → Store → Prop, k (some (e' x)) st → f (e x) st k) → Q (acc ++ l.map e') st → turns C f (l.map e) st acc Q := by
    intro l
    induction l with
    | nil => intro acc _ _ q; exact ⟨hC, by simpa using q⟩
    | cons x l ih =>
      intro acc hl h q
      rw [List.length_cons] at hl
      refine ⟨hC, h x List.mem_cons_self _ ⟨Nat.lt_of_lt_of_le (show acc.length < 1000 by omega) (by decide), ih _ (by rw [List.length_append, List.length_singleton]; omega) (fun y hy => h y (List.mem_cons_of_mem _ hy)) (by simpa using q)⟩⟩
  exact go l [] (by simpa using hl) h (by simpa using q)
theorem cut_all {xs : List D} (n : Nat) : cutD xs (some (n : Int)) none = xs.drop n := cut_drop n
theorem init_drop {xs : List D} : cutD xs none (some (-1)) = xs.take (xs.length - 1) := by
  unfold cutD
  have : HT.sIx xs.length xs.length (some (-1)) = xs.length - 1 := by
    unfold HT.sIx
    simp only
    split <;> omega
  rw [this]
  show (xs.drop 0).take (xs.length - 1 - 0) = _
  rw [List.drop_zero, Nat.sub_zero]
theorem holds_sub {g : Pr} {a b : List Str} (ha : a.Sublist g.a) (hb : b.Sublist g.b) (s : List Str) (h : holdsB g s = true) : holdsB ⟨a, b⟩ s = true := holds_mono (fun f hf => ha.subset hf) (fun f hf => hb.subset hf) s h
theorem eN_ne {st : Store} {a b : Option Nat} {k : Bool → Prop} (q : k (!decide (a = b))) : cmpR st .NotEq (eN a) (eN b) k := by
  have e : ∀ o : Option Nat, rsv st (eN o) = eN o := fun o => by cases o <;> rfl
  have d : ∀ o : Option Nat, (eN o).dat 60 = true := fun o => by cases o <;> (unfold eN D.dat; rfl)
  refine ⟨by rw [e]; exact d a, by rw [e]; exact d b, ?_⟩
  rw [e, e]
  have : (eN a).eqv (eN b) = decide (a = b) := by
    cases a <;> cases b <;> simp [eN, D.eqv]
    omega
  rw [this]; exact q
theorem Dr.ext {st st' : Store} {a : Addr} (h : Dr st a) (x : Ext st st') : Dr st' a := let ⟨u, v, e⟩ := h; ⟨u, v, x _ _ e⟩
/-- the last part of a turn -/
theorem law14_4 (k : Kn14 Γ) {K : Kn} {xs : List D} {a : Addr} {o1 o4 o5 o6 o7 o14 o15 o16 : Option D} {fd : D} {w : Wr} {g : Pr} {p : Pl} {st : Store} (hw : GoodW 3 w) (hg : WfPr w.facts g) (hp : p.st.Sublist w.facts) (hs : p.s ≤ 3) (hm : p.m ≤ 3)
    (hK : ∀ ρ st', (∃ o2 o3 o4 o5 o6 o7 o8 o9 o10 o11 o12 o13 o14 o15 o16, ρ = [some (.ro xs), o1, o2, o3, o4, o5, o6, o7, o8, o9, o10, o11, o12, o13, o14, o15, o16]) → K.nx ρ st') :
    denSs Γ X0 (.cons (.asg (.var 5) (.bi .tuple (.fr (.comp [16] (.var 16) (.of (.var 12)) (.bin .Add (.tup (.cons (.idx (.var 16) (.int 0)) (.cons (.bin .Add (.int 1) (.bin .Mod (.idx (.var 16) (.int 1)) (.int 100))) .nil))) (.slc (.var 16) (.at (.int 2)) .no)))))) (.cons (.asg (.var 6) (.bi .tuple (.fr (.comp [16] (.var 16) (.of (.var 5)) (.bin .Add (.tup (.cons (.idx (.var 16) (.int 0)) (.cons (.bin .Mult (.int 7) (.idx (.var 16) (.int 1))) .nil))) (.slc (.var 16) (.at (.int 2)) .no)))))) (.cons (.asg (.var 3) (.call "least" (.cons (.tup (.cons (.var 11) (.cons (.var 5) (.cons (.var 13) .nil)))) (.cons (.var 9) (.cons (.var 10) .nil))))) (.cons (.ife (.cmp .NotEq (.call "least" (.cons (.tup (.cons (.var 11) (.cons (.var 6) (.cons (.var 13) .nil)))) (.cons (.var 9) (.cons (.var 10) .nil)))) (.ite (.cmp .Is (.var 3) .non) .non (.bin .Mult (.int 7) (.var 3)))) (.cons (.ret (.bl false)) .nil) .nil) (.cons (.asg (.var 7) (.tup (.cons (.var 11) (.cons (.bi .tuple (.fr (.comp [16] (.var 16) (.of (.var 12)) (.bin .Add (.slc (.var 16) .no (.at (.int 3))) (.tup (.cons (.slc (.idx (.var 16) (.int 3)) .no (.at (.int 1))) .nil)))))) (.cons (.tup .nil) .nil))))) (.cons (.ife (.cmp .NotEq (.call "least" (.cons (.var 7) (.cons (.var 9) (.cons (.var 10) .nil)))) (.call "least" (.cons (.var 7) (.cons (.var 9) (.cons (.tup (.cons (.idx (.var 10) (.int 0)) (.cons (.int 0) (.cons (.int 0) .nil)))) .nil))))) (.cons (.ret (.bl false)) .nil) .nil) .nil))))))
      K (envL xs o1 a fd o4 o5 o6 o7 w g p o14 o15 o16) st := by
  have hwf := hw.wf
  have hmany : w.deeds.length ≤ 1000 := by have := hw.many.2; omega
  -- worlds with other deeds
  have mkW : ∀ f : Dd → Dd, (∀ d ∈ w.deeds, WfDd w.facts (f d)) → WfW { w with deeds := w.deeds.map f } := fun f h =>
    ⟨hwf.inc, hwf.len, hwf.ok, fun d hd => by obtain ⟨d', h1, rfl⟩ := List.mem_map.mp hd; exact h d' h1, hwf.meds, by show (w.deeds.map f).length ≤ 100; rw [List.length_map]; exact hwf.manyD, hwf.manyM⟩
  have wc : ∀ d ∈ w.deeds, WfDd w.facts (cheapD d) := fun d hd => let q := hwf.deeds d hd; ⟨q.name, by show 1 ≤ 1 + d.cost % 100; omega, q.cond, q.chs, q.ne, q.many⟩
  have wd : ∀ d ∈ w.deeds, WfDd w.facts (times 7 (cheapD d)) := fun d hd => let q := hwf.deeds d hd; ⟨q.name, by show 1 ≤ 7 * (1 + d.cost % 100); omega, q.cond, q.chs, q.ne, q.many⟩
  have wp : ∀ d ∈ w.deeds, WfDd w.facts (plainD d) := fun d hd => let q := hwf.deeds d hd; ⟨q.name, q.cost, q.cond, fun c hc => q.chs c (List.mem_of_mem_take hc), by
    show d.chs.take 1 ≠ []
    cases z : d.chs with
    | nil => exact (q.ne z).elim
    | cons c cs => simp, by show (d.chs.take 1).length ≤ 100; rw [List.length_take]; omega⟩
  -- cheap
  refine cons_asg (.tup ((w.deeds.map cheapD).map eDd)) (fun Q hQ => ?_) ?_
  · simp only [envL, den, denP, denI, items1, List.getElem?_cons_zero, List.getElem?_cons_succ]
    refine comp_map (e' := fun d => eDd (cheapD d)) w.deeds hmany (fun d hd kk hk => ?_) ?_
    · simp only [eDd, asg, wipeE, den, denEs, denO, List.getElem?_cons_zero, List.getElem?_cons_succ, List.set_cons_zero, List.set_cons_succ]
      refine ix_tup0 (ix_tup1 ⟨by decide, (by decide : 2 ≤ sizeLine), 2, rfl, ?_⟩)
      have e2 : cutD [D.str d.name, .int d.cost, eP d.cond, .tup (d.chs.map eP)] (some 2) none = [eP d.cond, .tup (d.chs.map eP)] := cut_all 2
      simp only [slcR]
      rw [e2]
      refine ⟨(by decide : 4 ≤ sizeLine), ?_⟩
      show kk (some (D.tup [.str d.name, .int (1 + (d.cost : Int) % 100), eP d.cond, .tup (d.chs.map eP)])) st
      rw [deed_cheap]
      exact hk
    · refine ⟨_, rfl, ?_⟩
      rw [List.map_map] at hQ
      exact hQ
  -- dear
  refine cons_asg (.tup ((w.deeds.map fun d => times 7 (cheapD d)).map eDd)) (fun Q hQ => ?_) ?_
  · simp only [envL, den, denP, denI, items1, List.getElem?_cons_zero, List.getElem?_cons_succ, List.set_cons_zero, List.set_cons_succ]
    refine comp_map (e := eDd) (e' := fun d => eDd (times 7 d)) (w.deeds.map cheapD) (by rw [List.length_map]; exact hmany) (fun d hd kk hk => ?_) ?_
    · simp only [eDd, asg, wipeE, den, denEs, denO, List.getElem?_cons_zero, List.getElem?_cons_succ, List.set_cons_zero, List.set_cons_succ]
      have hd99 : d.cost ≤ 100 := by
        obtain ⟨d', _, rfl⟩ := List.mem_map.mp hd
        show 1 + d'.cost % 100 ≤ 100
        omega
      refine ix_tup0 (ix_tup1 ⟨mulW ?_, (by decide : 2 ≤ sizeLine), 2, rfl, ?_⟩)
      · have h1 : ((d.cost : Int)).natAbs = d.cost := by omega
        rw [h1]
        have h2 : d.cost.log2 ≤ d.cost := Nat.log2_le_self d.cost
        have h3 : ((7 : Int)).natAbs.log2 ≤ 7 := by decide
        omega
      have e2 : cutD [D.str d.name, .int d.cost, eP d.cond, .tup (d.chs.map eP)] (some 2) none = [eP d.cond, .tup (d.chs.map eP)] := cut_all 2
      simp only [slcR]
      rw [e2]
      refine ⟨(by decide : 4 ≤ sizeLine), ?_⟩
      show kk (some (D.tup [.str d.name, .int (7 * (d.cost : Int)), eP d.cond, .tup (d.chs.map eP)])) st
      have e3 : (7 * (d.cost : Int)) = ((7 * d.cost : Nat) : Int) := by omega
      rw [e3]
      exact hk
    · refine ⟨_, rfl, ?_⟩
      rw [List.map_map] at hQ ⊢
      exact hQ
  -- the least of the cheap
  have cc : ∀ d ∈ ({ w with deeds := w.deeds.map cheapD } : Wr).deeds, d.cost ≤ 1000 := fun d hd => by
    obtain ⟨d', _, rfl⟩ := List.mem_map.mp hd
    show 1 + d'.cost % 100 ≤ 1000
    omega
  have cd : ∀ d ∈ ({ w with deeds := w.deeds.map fun d => times 7 (cheapD d) } : Wr).deeds, d.cost ≤ 1000 := fun d hd => by
    obtain ⟨d', _, rfl⟩ := List.mem_map.mp hd
    show 7 * (1 + d'.cost % 100) ≤ 1000
    omega
  rw [denSs, denS]
  simp only [envL, den, denEs, k.least, asg, List.length_cons, List.length_nil, Nat.reduceAdd, List.getElem?_cons_zero, List.getElem?_cons_succ, List.set_cons_zero, List.set_cons_succ]
  refine ⟨by decide, { w with deeds := w.deeds.map cheapD }, g, p, 1000, rfl, mkW _ wc, hg, hp, by omega, by omega, cap3 (w := { w with deeds := w.deeds.map cheapD }) hw.few cc hs hm, fun o st1 ho hbd hx1 => ?_⟩
  show denSs Γ X0 _ _ _ _
  rw [denSs, denS]
  simp only [den, denEs, k.least, asg, List.length_cons, List.length_nil, Nat.reduceAdd, List.getElem?_cons_zero, List.getElem?_cons_succ, List.set_cons_zero, List.set_cons_succ]
  refine ⟨by decide, { w with deeds := w.deeds.map fun d => times 7 (cheapD d) }, g, p, 1000, rfl, mkW _ wd, hg, hp, by omega, by omega, cap3 (w := { w with deeds := w.deeds.map fun d => times 7 (cheapD d) }) hw.few cd hs hm, fun o' st2 ho' _ hx2 => ?_⟩
  have e7 : o' = o.map fun c => (c.1, 7 * c.2) := by
    refine times_least (w := { w with deeds := w.deeds.map cheapD }) (by decide) ho ?_
    have : ({ ({ w with deeds := w.deeds.map cheapD } : Wr) with deeds := (w.deeds.map cheapD).map (times 7) } : Wr) = { w with deeds := w.deeds.map fun d => times 7 (cheapD d) } := by rw [List.map_map]; rfl
    rw [this]; exact ho'
  have rest : ∀ st3, denSs Γ X0 (.cons (.asg (.var 7) (.tup (.cons (.var 11) (.cons (.bi .tuple (.fr (.comp [16] (.var 16) (.of (.var 12)) (.bin .Add (.slc (.var 16) .no (.at (.int 3))) (.tup (.cons (.slc (.idx (.var 16) (.int 3)) .no (.at (.int 1))) .nil)))))) (.cons (.tup .nil) .nil))))) (.cons (.ife (.cmp .NotEq (.call "least" (.cons (.var 7) (.cons (.var 9) (.cons (.var 10) .nil)))) (.call "least" (.cons (.var 7) (.cons (.var 9) (.cons (.tup (.cons (.idx (.var 10) (.int 0)) (.cons (.int 0) (.cons (.int 0) .nil)))) .nil))))) (.cons (.ret (.bl false)) .nil) .nil) .nil))
      K [some (.ro xs), o1, some (.loc a), some (eN (o.map (·.2))), o4, some (.tup ((w.deeds.map cheapD).map eDd)), some (.tup ((w.deeds.map fun d => times 7 (cheapD d)).map eDd)), o7, some (eW w), some (eP g), some (ePl p), some (eS w.facts), some (.tup (w.deeds.map eDd)), some (.tup (w.meds.map eMd)), o14, o15, o16] st3 := by
    intro st3
    refine cons_asg (eW { w with deeds := w.deeds.map plainD, meds := [] }) (fun Q hQ => ?_) ?_
    · simp only [den, denEs, denP, denI, items1, List.getElem?_cons_zero, List.getElem?_cons_succ]
      refine comp_map (e := eDd) (e' := fun d => eDd (plainD d)) w.deeds hmany (fun d hd kk hk => ?_) ?_
      · simp only [eDd, asg, wipeE, den, denEs, denO, List.getElem?_cons_zero, List.getElem?_cons_succ, List.set_cons_zero, List.set_cons_succ]
        refine ⟨3, rfl, ?_⟩
        have e2 : cutD [D.str d.name, .int d.cost, eP d.cond, .tup (d.chs.map eP)] none (some 3) = [D.str d.name, .int d.cost, eP d.cond] := cut_take 3
        simp only [slcR]
        rw [e2]
        refine ix_tup3 ⟨1, rfl, ?_⟩
        have e3 : cutD (d.chs.map eP) none (some 1) = (d.chs.map eP).take 1 := cut_take 1
        show [D.tup (cutD (d.chs.map eP) none (some 1))].length ≤ sizeLine ∧ _
        rw [e3]
        refine ⟨(by decide : 1 ≤ sizeLine), (by decide : 4 ≤ sizeLine), ?_⟩
        show kk (some (D.tup [.str d.name, .int d.cost, eP d.cond, .tup ((d.chs.map eP).take 1)])) st3
        rw [← List.map_take]
        exact hk
      · refine ⟨_, rfl, (by decide : 0 ≤ sizeLine), (by decide : 3 ≤ sizeLine), ?_⟩
        have : eW { w with deeds := w.deeds.map plainD, meds := [] } = .tup [eS w.facts, .tup (w.deeds.map fun d => eDd (plainD d)), .tup []] := by
          unfold eW
          simp only [List.map_map, List.map_nil]
          rfl
        rw [this] at hQ
        exact hQ
    · have hWp : WfW { w with deeds := w.deeds.map plainD, meds := [] } :=
        ⟨hwf.inc, hwf.len, hwf.ok, (fun d hd => by obtain ⟨d', h1, rfl⟩ := List.mem_map.mp hd; exact wp d' h1), (fun d hd => nomatch hd), (by show (w.deeds.map plainD).length ≤ 100; rw [List.length_map]; exact hwf.manyD), Nat.zero_le _⟩
      have cp : ∀ d ∈ ({ w with deeds := w.deeds.map plainD, meds := [] } : Wr).deeds, d.cost ≤ 1000 := fun d hd => by
        obtain ⟨d', h1, rfl⟩ := List.mem_map.mp hd
        exact (hw.deeds d' h1).cost
      rw [denSs, denS]
      simp only [den, denEs, k.least, asg, List.length_cons, List.length_nil, Nat.reduceAdd, List.getElem?_cons_zero, List.getElem?_cons_succ, List.set_cons_zero, List.set_cons_succ]
      refine ⟨{ w with deeds := w.deeds.map plainD, meds := [] }, g, p, 1000, rfl, hWp, hg, hp, by omega, by omega, cap3 (w := { w with deeds := w.deeds.map plainD, meds := [] }) hw.few cp hs hm, fun q1 st4 hq1 _ hx4 => ?_⟩
      have epl : ePl p = .tup [eS p.st, .int p.s, .int p.m] := rfl
      rw [epl]
      refine ix_tup0 ⟨(by decide : 3 ≤ sizeLine), ?_⟩
      refine ⟨{ w with deeds := w.deeds.map plainD, meds := [] }, g, ⟨p.st, 0, 0⟩, 1000, rfl, hWp, hg, hp, by simp, by simp, cap3 (w := { w with deeds := w.deeds.map plainD, meds := [] }) hw.few cp (by simp) (by simp), fun q2 st5 hq2 _ hx5 => ?_⟩
      have eq : q1 = q2 := plain_least (w := { w with deeds := w.deeds.map plainD, meds := [] }) rfl (fun d hd => by obtain ⟨d', h1, rfl⟩ := List.mem_map.mp hd; show (d'.chs.take 1).length ≤ 1; rw [List.length_take]; omega) (p := p) (p' := ⟨p.st, 0, 0⟩) rfl hq1 hq2
      refine eN_ne ⟨_, rfl, ?_⟩
      rw [eq]
      simp only [decide_true, Bool.not_true, Bool.false_eq_true, if_false, denSs]
      exact hK _ _ ⟨_, _, _, _, _, _, _, _, _, _, _, _, _, _, _, rfl⟩
  refine is_ev ⟨_, rfl, ?_⟩
  cases o with
  | none =>
    subst e7
    simp only [eN, Option.map_none, if_true]
    refine eN_ne (a := none) (b := none) ⟨_, rfl, ?_⟩
    simp only [decide_true, Bool.not_true, Bool.false_eq_true, if_false, denSs]
    exact rest st2
  | some c =>
    subst e7
    simp only [eN, Option.map_some, Bool.false_eq_true, if_false]
    have hc7 : (7 * (c.2 : Int)) = ((7 * c.2 : Nat) : Int) := by omega
    refine ⟨mulW ?_, ?_⟩
    · have h1 : ((c.2 : Int)).natAbs = c.2 := by omega
      rw [h1]
      have h2 : c.2.log2 ≤ c.2 := Nat.log2_le_self c.2
      have h3 : ((7 : Int)).natAbs.log2 ≤ 7 := by decide
      have h4 := hbd c rfl
      have h5 : (placesF { w with deeds := w.deeds.map cheapD } p.s p.m).length ≤ 128 := by
        rw [places_len]
        have : 2 ^ w.facts.length ≤ 8 := Nat.pow_le_pow_right (n := 2) (by decide) hw.few
        exact Nat.mul_le_mul this (Nat.mul_le_mul (show p.s + 1 ≤ 4 by omega) (show p.m + 1 ≤ 4 by omega))
      have h6 := Nat.mul_le_mul_left 1000 h5
      omega
    rw [hc7]
    refine eN_ne (a := some _) (b := some _) ⟨_, rfl, ?_⟩
    simp only [decide_true, Bool.not_true, Bool.false_eq_true, if_false, denSs]
    exact rest st2
theorem d_law14 (k : Kn14 Γ) : Does Γ 17 1 b14_law sp_law := by
  rintro ds st P ⟨xs, rfl, hi, hl, hP⟩
  refine ⟨rfl, ?_⟩
  unfold b14_law
  rw [denSs, denS]
  simp only [denI, den, startE, List.map_cons, List.map_nil, List.cons_append, List.nil_append, List.getElem?_cons_zero, List.length_cons, List.length_nil]
  refine len_ro ?_
  refine ⟨_, _, rfl, rfl, _, _, rfl, rfl, _, rfl, ?_, ?_⟩
  · split <;> split <;> omega
  · refine forL_inv (fun _ ρ _ => ∃ o1 o2 o3 o4 o5 o6 o7 o8 o9 o10 o11 o12 o13 o14 o15 o16, ρ = [some (.ro xs), o1, o2, o3, o4, o5, o6, o7, o8, o9, o10, o11, o12, o13, o14, o15, o16]) _ 0 _ _ ⟨_, _, _, _, _, _, _, _, _, _, _, _, _, _, _, _, rfl⟩ ?_ ?_
    · rintro j d ρ st1 N hj ⟨o1, o2, o3, o4, o5, o6, o7, o8, o9, o10, o11, o12, o13, o14, o15, o16, rfl⟩ hN
      obtain ⟨kk, rfl⟩ : ∃ k : Nat, d = .int (k : Int) := by
        simp only [rangeL, List.getElem?_map, Option.map_eq_some_iff] at hj
        obtain ⟨i, _, rfl⟩ := hj
        exact ⟨i, by rw [Int.zero_add]⟩
      unfold b14_law_3
      simp only [asg, List.set]
      rw [denSs, denS]
      simp only [den, denEs, k.draws, List.getElem?_cons_zero, List.getElem?_cons_succ]
      refine ⟨xs, kk, rfl, hi, fun a st2 _ hd2 _ => ?_⟩
      simp only [asg, List.set]
      rw [denSs, denS]
      simp only [den, denEs, k.case_, List.getElem?_cons_zero, List.getElem?_cons_succ]
      refine ⟨a, 3, rfl, by decide, by decide, hd2, fun c st3 hc hk3 => ?_⟩
      obtain ⟨w, g, p, rfl, hw, hg, hdj, hp, hs, hm⟩ := case_typed (most := 3) hc
      have hwf := hw.wf
      have hcost : ∀ d ∈ w.deeds, d.cost ≤ 1000 := fun d hd => (hw.deeds d hd).cost
      simp only [asg, asgs, List.set]
      rw [denSs, denS]
      simp only [den, eW_eq, asg, asgs, List.set, List.getElem?_cons_zero, List.getElem?_cons_succ]
      rw [← eW_eq]
      rw [denSs, denS]
      simp only [den, denEs, k.least, asg, List.set, List.getElem?_cons_zero, List.getElem?_cons_succ]
      refine ⟨w, g, p, 1000, rfl, hwf, hg, hp, by omega, by omega, cap3 hw.few hcost (by omega) (by omega), fun o st4 ho _ hx4 => ?_⟩
      show denSs Γ X0 _ _ (envL xs (some (.int kk)) a (eN (o.map (·.2))) o4 o5 o6 o7 w g p o14 o15 o16) st4
      -- harder ones
      rw [denSs, denS]
      simp only [denI, den, denEs, k.harder, envL, List.getElem?_cons_zero, List.getElem?_cons_succ]
      refine ⟨a, w, p, rfl, hw, hp, hs, hm, hk3.dr.ext hx4, fun L st5 hL _ hk5 => ?_⟩
      simp only [items1]
      refine law14_1 k (xs := xs) (a := a) (w := w) (g := g) (p := p) (o := o) (L := L) hw.few hg hp ho hL fun o14 o15 st6 hx6 => ?_
      -- weaker goals
      show denSs Γ X0 _ _ _ st6
      rw [denSs, denS]
      have eg : eP g = .tup [eS g.a, eS g.b] := rfl
      simp only [denI, den, denP, denEs, denO, envL, eg, List.length_cons, List.length_nil, List.getElem?_cons_zero, List.getElem?_cons_succ]
      refine ix_tup0 ⟨1, rfl, ?_⟩
      have c1 : cutD (g.a.map D.str) (some 1) none = (g.a.map D.str).drop 1 := cut_drop 1
      simp only [slcR, eS]
      rw [c1]
      refine ix_tup1 ⟨(by decide : 2 ≤ sizeLine), ix_tup0 (ix_tup1 ⟨1, rfl, -1, rfl, ?_⟩)⟩
      simp only [slcR, eS]
      rw [init_drop]
      refine ⟨(by decide : 2 ≤ sizeLine), (by decide : 0 ≤ sizeLine), (by decide : 0 ≤ sizeLine), (by decide : 2 ≤ sizeLine), (by decide : 3 ≤ sizeLine), ?_⟩
      simp only [items1]
      refine law14_2 k (xs := xs) (a := a) (w := w) (g := g) (p := p) (o := o) hwf hw.few hcost hp (by omega) (by omega) ho (fun d hd => ?_) fun o4 st7 hx7 => ?_
      · simp only [List.mem_cons, List.not_mem_nil, or_false] at hd
        rcases hd with rfl | rfl | rfl
        · refine ⟨⟨g.a.drop 1, g.b⟩, ?_, ⟨(List.drop_sublist _ _).trans hg.a, hg.b⟩, holds_sub (List.drop_sublist _ _) (List.Sublist.refl _)⟩
          unfold eP eS
          rw [List.map_drop]
        · refine ⟨⟨g.a, g.b.take (g.b.length - 1)⟩, ?_, ⟨hg.a, (List.take_sublist _ _).trans hg.b⟩, holds_sub (List.Sublist.refl _) (List.take_sublist _ _)⟩
          unfold eP eS
          rw [List.map_take, List.length_map]
        · exact ⟨⟨[], []⟩, rfl, ⟨List.nil_sublist _, List.nil_sublist _⟩, holds_sub (List.nil_sublist _) (List.nil_sublist _)⟩
      · show denSs Γ X0 _ _ _ st7
        exact law14_4 k hw hg hp (by omega) (by omega) fun ρ st8 ⟨o2, o3, o4, o5, o6, o7, o8, o9, o10, o11, o12, o13, o14, o15, o16, e⟩ => hN ρ st8 ⟨_, o2, o3, o4, o5, o6, o7, o8, o9, o10, o11, o12, o13, o14, o15, o16, e⟩
    · rintro ρ st1 ⟨o1, o2, o3, o4, o5, o6, o7, o8, o9, o10, o11, o12, o13, o14, o15, o16, rfl⟩
      show denSs Γ X0 _ _ _ st1
      rw [denSs, denS]
      simp only [den]
      exact hP st1
end G
/-! Classes of the head. -/
namespace G
open PySem PySem.Spec PyProof.Rows L2
def clsOf (K : PySem.W.Frag) (cs : List (Str × List Str)) : Str → Option Addr := fun c => if (cs.lookup c).isSome then some (He.ga K c) else none
theorem look_in {α : Type} {x : Str} {v : α} : ∀ {l : List (Str × α)}, l.lookup x = some v → (x, v) ∈ l
  | (y, w) :: l, h => by
    rw [List.lookup_cons] at h
    cases q : x == y with
    | true => rw [q] at h; cases h; rw [eq_of_beq q]; exact List.mem_cons_self
    | false => rw [q] at h; exact List.mem_cons_of_mem _ (look_in h)
theorem cf_of {K : PySem.W.Frag} {w : World} {gl : List (Str × D)} {cs : List (Str × List Str)} {clo : Nat → Option Addr} {T : List (Addr × Str)} (h : ∀ p ∈ cs, Cls K (He.ga K p.1) ∧ ∀ f ∈ p.2, NoAttr K (He.ga K p.1) f) :
    ∀ c f C, (mkΓ gl [] [] cs).cf c f = true → (Wd.mk K w (clsOf K cs) clo T).cls c = some C → Cls K C ∧ NoAttr K C f := by
  intro c f C h1 h2
  have h1 : ((cs.lookup c).getD []).contains f = true := h1
  have h2 : (if (cs.lookup c).isSome then some (He.ga K c) else none) = some C := h2
  cases q : cs.lookup c with
  | none => rw [q] at h2; cases h2
  | some fs =>
    rw [q] at h1 h2
    cases h2
    obtain ⟨a, b⟩ := h _ (look_in q)
    exact ⟨a, b f (by simpa using h1)⟩
theorem tab_nil {K : PySem.W.Frag} {w : World} {cls : Str → Option Addr} {clo : Nat → Option Addr} {H : Hp} : TabR (Wd.mk K w cls clo []) (fun _ => False) (fun _ => none) H := by
  intro p hp
  cases hp
end G
namespace G
open PySem PySem.Spec PyProof.Rows L2
def top (i : Nat) : Stmt := PySem.Challenge.pw_goalhelm_k14_whole_nothing_gets_cheaper.main.body.getD i (.Pass ⟨0, 0, 0, 0⟩)
def mth (i j : Nat) : Stmt := (match top i with | .ClassDef _ _ _ b .. => b | _ => []).getD j (.Pass ⟨0, 0, 0, 0⟩)
def κ_states : Kx := ⟨["world", "found", "fact", "state"], [], []⟩
theorem ch_states : chSs κ_states (defScope (top 1)) b_states (defBody (top 1)) = true := by decide +kernel
theorem sc_states : FnScope κ_states.N ["world"] (defScope (top 1)) := ⟨rfl, rfl, rfl, by decide +kernel, rfl, by decide +kernel, by decide +kernel⟩
def κ_holds : Kx := ⟨["condition", "state", "wants", "bars", "fact"], [], []⟩
theorem ch_holds : chSs κ_holds (defScope (top 2)) b_holds (defBody (top 2)) = true := by decide +kernel
theorem sc_holds : FnScope κ_holds.N ["condition", "state"] (defScope (top 2)) := ⟨rfl, rfl, rfl, by decide +kernel, rfl, by decide +kernel, by decide +kernel⟩
def κ_behind : Kx := ⟨["state", "change", "kept", "puts", "takes", "fact"], [], []⟩
theorem ch_behind : chSs κ_behind (defScope (top 3)) b_behind (defBody (top 3)) = true := by decide +kernel
theorem sc_behind : FnScope κ_behind.N ["state", "change"] (defScope (top 3)) := ⟨rfl, rfl, rfl, by decide +kernel, rfl, by decide +kernel, by decide +kernel⟩
def κ_leads_of : Kx := ⟨["world", "place", "deed", "found", "state", "slips", "meddles", "one", "left", "more", "name", "condition", "change"], ["behind", "holds"], []⟩
theorem ch_leads_of : chSs κ_leads_of (defScope (top 5)) b_leads_of (defBody (top 5)) = true := by decide +kernel
theorem sc_leads_of : FnScope κ_leads_of.N ["world", "place", "deed"] (defScope (top 5)) := ⟨rfl, rfl, rfl, by decide +kernel, rfl, by decide +kernel, by decide +kernel⟩
def κ_places : Kx := ⟨["world", "slips", "meddles", "counts", "one", "other", "state"], ["states"], []⟩
theorem ch_places : chSs κ_places (defScope (top 6)) b_places (defBody (top 6)) = true := by decide +kernel
theorem sc_places : FnScope κ_places.N ["world", "slips", "meddles"] (defScope (top 6)) := ⟨rfl, rfl, rfl, by decide +kernel, rfl, by decide +kernel, by decide +kernel⟩
def κ_Best_steps_of : Kx := ⟨["self", "place", "found", "deed", "otherwise"], ["holds", "leads_of"], []⟩
theorem ch_Best_steps_of : chSs κ_Best_steps_of (defScope (mth 9 1)) b_Best_steps_of (defBody (mth 9 1)) = true := by decide +kernel
theorem sc_Best_steps_of : FnScope κ_Best_steps_of.N ["self", "place"] (defScope (mth 9 1)) := ⟨rfl, rfl, rfl, by decide +kernel, rfl, by decide +kernel, by decide +kernel⟩
def κ_Best_by : Kx := ⟨["self", "step", "behind", "most", "name", "pair", "some", "one"], [], []⟩
theorem ch_Best_by : chSs κ_Best_by (defScope (mth 9 2)) b_Best_by (defBody (mth 9 2)) = true := by decide +kernel
theorem sc_Best_by : FnScope κ_Best_by.N ["self", "step"] (defScope (mth 9 2)) := ⟨rfl, rfl, rfl, by decide +kernel, rfl, by decide +kernel, by decide +kernel⟩
def κ_Best_is_better : Kx := ⟨["self", "place", "some", "pair", "step"], [], [("Best", "by")]⟩
theorem ch_Best_is_better : chSs κ_Best_is_better (defScope (mth 9 3)) b_Best_is_better (defBody (mth 9 3)) = true := by decide +kernel
theorem sc_Best_is_better : FnScope κ_Best_is_better.N ["self", "place"] (defScope (mth 9 3)) := ⟨rfl, rfl, rfl, by decide +kernel, rfl, by decide +kernel, by decide +kernel⟩
def κ_Best_settle : Kx := ⟨["self", "users", "place", "steps", "one", "line", "at", "step", "end"], [], [("Best", "is_better")]⟩
theorem ch_Best_settle : chSs κ_Best_settle (defScope (mth 9 4)) b_Best_settle (defBody (mth 9 4)) = true := by decide +kernel
theorem sc_Best_settle : FnScope κ_Best_settle.N ["self"] (defScope (mth 9 4)) := ⟨rfl, rfl, rfl, by decide +kernel, rfl, by decide +kernel, by decide +kernel⟩
def κ_Best___init__ : Kx := ⟨["self", "world", "goal", "slips", "meddles", "elder", "place"], ["holds", "places"], [("Best", "settle"), ("Best", "steps_of")]⟩
theorem ch_Best___init__ : chSs κ_Best___init__ (defScope (mth 9 0)) b_Best___init__ (defBody (mth 9 0)) = true := by decide +kernel
theorem sc_Best___init__ : FnScope κ_Best___init__.N ["self", "world", "goal", "slips", "meddles", "elder"] (defScope (mth 9 0)) := ⟨rfl, rfl, rfl, by decide +kernel, rfl, by decide +kernel, by decide +kernel⟩
def κ_best_from : Kx := ⟨["world", "goal", "place"], [], [("Best", "__init__")]⟩
theorem ch_best_from : chSs κ_best_from (defScope (top 10)) b_best_from (defBody (top 10)) = true := by decide +kernel
theorem sc_best_from : FnScope κ_best_from.N ["world", "goal", "place"] (defScope (top 10)) := ⟨rfl, rfl, rfl, by decide +kernel, rfl, by decide +kernel, by decide +kernel⟩
def κ_least : Kx := ⟨["world", "goal", "place", "found"], ["best_from"], []⟩
theorem ch_least : chSs κ_least (defScope (top 11)) b_least (defBody (top 11)) = true := by decide +kernel
theorem sc_least : FnScope κ_least.N ["world", "goal", "place"] (defScope (top 11)) := ⟨rfl, rfl, rfl, by decide +kernel, rfl, by decide +kernel, by decide +kernel⟩
def κ__law_draws : Kx := ⟨["script", "k", "cell"], [], []⟩
theorem ch__law_draws : chSs κ__law_draws (defScope (top 15)) b__law_draws (defBody (top 15)) = true := by decide +kernel
theorem sc__law_draws : FnScope κ__law_draws.N ["script", "k"] (defScope (top 15)) := ⟨rfl, rfl, rfl, by decide +kernel, rfl, by decide +kernel, by decide +kernel⟩
def κ__law_draw : Kx := ⟨["draws", "many", "found", "wide"], [], []⟩
theorem ch__law_draw : chSs κ__law_draw (defScope (top 13)) b__law_draw (defBody (top 13)) = true := by decide +kernel
theorem sc__law_draw : FnScope κ__law_draw.N ["draws", "many"] (defScope (top 13)) := ⟨rfl, rfl, rfl, by decide +kernel, rfl, by decide +kernel, by decide +kernel⟩
def κ__law_pair : Kx := ⟨["draws", "facts", "share", "found", "fact", "way"], ["_law_draw"], []⟩
theorem ch__law_pair : chSs κ__law_pair (defScope (top 14)) b__law_pair (defBody (top 14)) = true := by decide +kernel
theorem sc__law_pair : FnScope κ__law_pair.N ["draws", "facts", "share"] (defScope (top 14)) := ⟨rfl, rfl, rfl, by decide +kernel, rfl, by decide +kernel, by decide +kernel⟩
def κ__law_world : Kx := ⟨["draws", "most", "facts", "far", "name", "deeds", "meddlers", "changes", "k"], ["_law_draw", "_law_pair"], []⟩
theorem ch__law_world : chSs κ__law_world (defScope (top 16)) b__law_world (defBody (top 16)) = true := by decide +kernel
theorem sc__law_world : FnScope κ__law_world.N ["draws", "most"] (defScope (top 16)) := ⟨rfl, rfl, rfl, by decide +kernel, rfl, by decide +kernel, by decide +kernel⟩
def κ__law_state : Kx := ⟨["draws", "facts", "fact"], ["_law_draw"], []⟩
theorem ch__law_state : chSs κ__law_state (defScope (top 17)) b__law_state (defBody (top 17)) = true := by decide +kernel
theorem sc__law_state : FnScope κ__law_state.N ["draws", "facts"] (defScope (top 17)) := ⟨rfl, rfl, rfl, by decide +kernel, rfl, by decide +kernel, by decide +kernel⟩
def κ__law_case : Kx := ⟨["draws", "most", "world", "goal"], ["_law_draw", "_law_pair", "_law_state", "_law_world"], []⟩
theorem ch__law_case : chSs κ__law_case (defScope (top 18)) b__law_case (defBody (top 18)) = true := by decide +kernel
theorem sc__law_case : FnScope κ__law_case.N ["draws", "most"] (defScope (top 18)) := ⟨rfl, rfl, rfl, by decide +kernel, rfl, by decide +kernel, by decide +kernel⟩
def κ__law_at_least : Kx := ⟨["found", "other"], [], []⟩
theorem ch__law_at_least : chSs κ__law_at_least (defScope (top 19)) b__law_at_least (defBody (top 19)) = true := by decide +kernel
theorem sc__law_at_least : FnScope κ__law_at_least.N ["found", "other"] (defScope (top 19)) := ⟨rfl, rfl, rfl, by decide +kernel, rfl, by decide +kernel, by decide +kernel⟩
def κ__law_harder : Kx := ⟨["draws", "world", "place", "at", "found", "wants", "others", "deed", "facts", "deeds", "meddlers", "state", "slips", "meddles", "name", "cost", "condition", "changes", "more", "fact"], ["_law_draw", "_law_pair"], []⟩
theorem ch__law_harder : chSs κ__law_harder (defScope (top 20)) b__law_harder (defBody (top 20)) = true := by decide +kernel
theorem sc__law_harder : FnScope κ__law_harder.N ["draws", "world", "place"] (defScope (top 20)) := ⟨rfl, rfl, rfl, by decide +kernel, rfl, by decide +kernel, by decide +kernel⟩
def κ_law : Kx := ⟨["script", "k", "draws", "found", "weaker", "cheap", "dear", "plain", "world", "goal", "place", "facts", "deeds", "meddlers", "other", "there", "deed"], ["_law_at_least", "_law_case", "_law_draws", "_law_harder", "least"], []⟩
theorem ch_law : chSs κ_law (defScope (top 21)) b14_law (defBody (top 21)) = true := by decide +kernel
theorem sc_law : FnScope κ_law.N ["script"] (defScope (top 21)) := ⟨rfl, rfl, rfl, by decide +kernel, rfl, by decide +kernel, by decide +kernel⟩
def hfn : List He.DefD := [dOf "states" (top 1), dOf "holds" (top 2), dOf "behind" (top 3), dOf "leads_of" (top 5), dOf "places" (top 6), dOfM "Best" "steps_of" "Best.steps_of" (mth 9 1), dOfM "Best" "by" "Best.by" (mth 9 2), dOfM "Best" "is_better" "Best.is_better" (mth 9 3), dOfM "Best" "settle" "Best.settle" (mth 9 4), dOfM "Best" "__init__" "Best.__init__" (mth 9 0), dOf "best_from" (top 10), dOf "least" (top 11), dOf "_law_draws" (top 15), dOf "_law_draw" (top 13), dOf "_law_pair" (top 14), dOf "_law_world" (top 16), dOf "_law_state" (top 17), dOf "_law_case" (top 18), dOf "_law_at_least" (top 19), dOf "_law_harder" (top 20), dOf "law" (top 21)]
def hfa : List He.Fa := [.glo "states", .glo "holds", .glo "behind", .glo "leads_of", .glo "places", .glo "best_from", .glo "least", .glo "_law_draws", .glo "_law_draw", .glo "_law_pair", .glo "_law_world", .glo "_law_state", .glo "_law_case", .glo "_law_at_least", .glo "_law_harder", .glo "law", .glo "Best", .cls "Best", .mkr "Best", .noat "Best" "world", .noat "Best" "goal", .noat "Best" "elder", .noat "Best" "steps", .noat "Best" "least", .meth "Best" "steps_of", .meth "Best" "by", .meth "Best" "is_better", .meth "Best" "settle", .free "len", .free "tuple", .free "max", .free "min", .free "all", .free "any", .free "int", .free "sum", .free "isinstance", .free "list", .free "sorted", .free "dict", .free "range", .free "zip", .free "enumerate", .free "set", .free "bool", .free "str"]
def hxt : List (Str × List Int) := [("NOUGHT", [0, 0])]
def hcs : List (Str × List Str) := [("Best", ["world", "goal", "elder", "steps", "least"])]
def names0 : List PySem.Str := ["states", "holds", "behind", "leads_of", "places", "NOUGHT", "Best", "best_from", "least", "_law_draw", "_law_pair", "_law_draws", "_law_world", "_law_state", "_law_case", "_law_at_least", "_law_harder", "__name__"]
def hnames : List PySem.Str := names0
abbrev hR : PySem.W.OpenRow := PySem.W.OpenLaw.row PySem.Challenge.rw_goalhelm_k14_whole_nothing_gets_cheaper
abbrev hk : PySem.W.Hook := hookX 6 hfa hfn hxt
def hob (s : PySem.W.SharedT) : He.AlD × Bool := obsXG 6 hfa hfn hxt (HandSHeadRun.getT s)
theorem hob_eq (s : PySem.W.SharedT) : hob s = hk.obs s.abs := obsXG_eq (HandSHeadRun.getT_eq s)
theorem hrun (w : World) : HandSHeadRun.RunEq hR (PySem.W.view hR.prog [21]) hk hob 6000 hnames w := by
  intro os
  kernel_rfl
def hgl : List (Str × D) := [("NOUGHT", .tup [.int 0, .int 0])]
theorem facts {P : Program} {w : World} {K : PySem.W.Frag} {h : Heap} {mg : Str → Option Value} {f : Addr} (KX : K.In h) (GM : h.Ns mainGlobals mg) (hfa' : mg ("law" : Str) = some (.ref f)) (cc : Says hfa hfn hxt K) :
    ∃ fd : FuncData, (∀ (s : Shared) (v : Value), BindsTo s fd ⟨[v], []⟩ [("script", v)]) ∧ ∀ base : Heap, K.In base → base.Ns mainGlobals mg → FnOk P w K mg base L2.CX0 22 f fd ["script"] (LS ⟨K, w, clsOf K hcs, fun _ => none, []⟩ sp_law) := by
  obtain ⟨c, cx⟩ := cc
  obtain ⟨fd, F⟩ := c.def_ 20 (d := dOf "law" (top 21)) rfl
  have e := hfa'.symm.trans (He.glo_ok KX GM (c.fact 15 (f := .glo "law") rfl))
  cases e
  have b := FunD.bindsA (ps := ["script"]) F fun _ _ _ _ _ _ us hl => match us, hl with | [_], _ => rfl
  refine ⟨fd, fun s v => b s [v] rfl, fun base _ _ => ?_⟩
  let W : Wd := ⟨K, w, clsOf K hcs, fun _ => none, []⟩
  have G0 : Gx (mkΓ hgl [] [] hcs) W P mg base 0 := gx_nil (hf_cons (He.free_ok KX GM (c.fact 28 (f := .free "len") rfl)) (hf_cons (He.free_ok KX GM (c.fact 29 (f := .free "tuple") rfl)) (hf_cons (He.free_ok KX GM (c.fact 30 (f := .free "max") rfl)) (hf_cons (He.free_ok KX GM (c.fact 31 (f := .free "min") rfl)) (hf_cons (He.free_ok KX GM (c.fact 32 (f := .free "all") rfl)) (hf_cons (He.free_ok KX GM (c.fact 33 (f := .free "any") rfl)) (hf_cons (He.free_ok KX GM (c.fact 34 (f := .free "int") rfl)) (hf_cons (He.free_ok KX GM (c.fact 35 (f := .free "sum") rfl)) (hf_cons (He.free_ok KX GM (c.fact 36 (f := .free "isinstance") rfl)) (hf_cons (He.free_ok KX GM (c.fact 37 (f := .free "list") rfl)) (hf_cons (He.free_ok KX GM (c.fact 38 (f := .free "sorted") rfl)) (hf_cons (He.free_ok KX GM (c.fact 39 (f := .free "dict") rfl)) (hf_cons (He.free_ok KX GM (c.fact 40 (f := .free "range") rfl)) (hf_cons (He.free_ok KX GM (c.fact 41 (f := .free "zip") rfl)) (hf_cons (He.free_ok KX GM (c.fact 42 (f := .free "enumerate") rfl)) (hf_cons (He.free_ok KX GM (c.fact 43 (f := .free "set") rfl)) (hf_cons (He.free_ok KX GM (c.fact 44 (f := .free "bool") rfl)) (hf_cons (He.free_ok KX GM (c.fact 45 (f := .free "str") rfl)) (hf_nil))))))))))))))))))) (gl_cons (gl_xt (is := [0, 0]) KX GM (List.all_eq_true.mp cx _ (List.mem_of_getElem? (i := 0) rfl))) (gl_nil)) (cf_of (hf_cons ⟨He.cls_ok (c.fact 17 (f := .cls "Best") rfl), hf_cons (He.noat_ok (c.fact 19 (f := .noat "Best" "world") rfl)) (hf_cons (He.noat_ok (c.fact 20 (f := .noat "Best" "goal") rfl)) (hf_cons (He.noat_ok (c.fact 21 (f := .noat "Best" "elder") rfl)) (hf_cons (He.noat_ok (c.fact 22 (f := .noat "Best" "steps") rfl)) (hf_cons (He.noat_ok (c.fact 23 (f := .noat "Best" "least") rfl)) (hf_nil)))))⟩ (hf_nil)))
  have G1 := gx_def (sp := sp_states) KX GM c 0 0 rfl rfl G0 sc_states ch_states (fun _ _ _ _ _ _ us hl => match us, hl with | [_], _ => rfl) (hf_nil) (hf_nil) (d_states)
  have G2 := gx_def (sp := sp_holds) KX GM c 1 1 rfl rfl G1 sc_holds ch_holds (fun _ _ _ _ _ _ us hl => match us, hl with | [_, _], _ => rfl) (hf_nil) (hf_nil) (d_holds)
  have G3 := gx_def (sp := sp_behind) KX GM c 2 2 rfl rfl G2 sc_behind ch_behind (fun _ _ _ _ _ _ us hl => match us, hl with | [_, _], _ => rfl) (hf_nil) (hf_nil) (d_behind)
  have G4 := gx_def (sp := sp_leads_of) KX GM c 3 3 rfl rfl G3 sc_leads_of ch_leads_of (fun _ _ _ _ _ _ us hl => match us, hl with | [_, _, _], _ => rfl) (hf_cons ⟨_, rfl⟩ (hf_cons ⟨_, rfl⟩ (hf_nil))) (hf_nil) (d_leads_of rfl rfl)
  have G5 := gx_def (sp := sp_places) KX GM c 4 4 rfl rfl G4 sc_places ch_places (fun _ _ _ _ _ _ us hl => match us, hl with | [_, _, _], _ => rfl) (hf_cons ⟨_, rfl⟩ (hf_nil)) (hf_nil) (d_places rfl)
  have G6 := gx_meth (W := W) (sp := sp_steps_of) (x := "Best") rfl (by decide) c 5 17 24 rfl rfl rfl G5 sc_Best_steps_of ch_Best_steps_of (fun _ _ _ _ _ _ us hl => match us, hl with | [_, _], _ => rfl) (hf_cons ⟨_, rfl⟩ (hf_cons ⟨_, rfl⟩ (hf_nil))) (hf_nil) (d_steps_of rfl rfl rfl rfl)
  have G7 := gx_meth (W := W) (sp := sp_by) (x := "Best") rfl (by decide) c 6 17 25 rfl rfl rfl G6 sc_Best_by ch_Best_by (fun _ _ _ _ _ _ us hl => match us, hl with | [_, _], _ => rfl) (hf_nil) (hf_nil) (d_by rfl)
  have G8 := gx_meth (W := W) (sp := sp_is_better) (x := "Best") rfl (by decide) c 7 17 26 rfl rfl rfl G7 sc_Best_is_better ch_Best_is_better (fun _ _ _ _ _ _ us hl => match us, hl with | [_, _], _ => rfl) (hf_nil) (hf_cons ⟨_, rfl⟩ (hf_nil)) (d_is_better rfl rfl rfl)
  have G9 := gx_meth (W := W) (sp := sp_settle) (x := "Best") rfl (by decide) c 8 17 27 rfl rfl rfl G8 sc_Best_settle ch_Best_settle (fun _ _ _ _ _ _ us hl => match us, hl with | [_], _ => rfl) (hf_nil) (hf_cons ⟨_, rfl⟩ (hf_nil)) (d_settle ⟨rfl, rfl, rfl, rfl⟩)
  have G10 := gx_init (W := W) (sp := sp_init) KX GM (x := "Best") rfl c 9 16 18 rfl rfl rfl G9 sc_Best___init__ ch_Best___init__ (fun _ _ _ _ _ _ us hl => match us, hl with | [_, _, _, _, _, _], _ => rfl) (hf_cons ⟨_, rfl⟩ (hf_cons ⟨_, rfl⟩ (hf_nil))) (hf_cons ⟨_, rfl⟩ (hf_cons ⟨_, rfl⟩ (hf_nil))) (d_init ⟨⟨rfl, rfl, rfl, rfl⟩, rfl, rfl, rfl, rfl, rfl, rfl, rfl⟩)
  have G11 := gx_def (sp := sp_best_from) KX GM c 10 5 rfl rfl G10 sc_best_from ch_best_from (fun _ _ _ _ _ _ us hl => match us, hl with | [_, _, _], _ => rfl) (hf_nil) (hf_cons ⟨_, rfl⟩ (hf_nil)) (d_best_from rfl)
  have G12 := gx_def (sp := sp_least) KX GM c 11 6 rfl rfl G11 sc_least ch_least (fun _ _ _ _ _ _ us hl => match us, hl with | [_, _, _], _ => rfl) (hf_cons ⟨_, rfl⟩ (hf_nil)) (hf_nil) (d_least rfl rfl)
  have G13 := gx_def (sp := sp__law_draws) KX GM c 12 7 rfl rfl G12 sc__law_draws ch__law_draws (fun _ _ _ _ _ _ us hl => match us, hl with | [_, _], _ => rfl) (hf_nil) (hf_nil) (d__law_draws)
  have G14 := gx_def (sp := sp__law_draw) KX GM c 13 8 rfl rfl G13 sc__law_draw ch__law_draw (fun _ _ _ _ _ _ us hl => match us, hl with | [_, _], _ => rfl) (hf_nil) (hf_nil) (d__law_draw)
  have G15 := gx_def (sp := sp__law_pair) KX GM c 14 9 rfl rfl G14 sc__law_pair ch__law_pair (fun _ _ _ _ _ _ us hl => match us, hl with | [_, _, _], _ => rfl) (hf_cons ⟨_, rfl⟩ (hf_nil)) (hf_nil) (d__law_pair rfl)
  have G16 := gx_def (sp := sp__law_world) KX GM c 15 10 rfl rfl G15 sc__law_world ch__law_world (fun _ _ _ _ _ _ us hl => match us, hl with | [_, _], _ => rfl) (hf_cons ⟨_, rfl⟩ (hf_cons ⟨_, rfl⟩ (hf_nil))) (hf_nil) (d__law_world rfl rfl)
  have G17 := gx_def (sp := sp__law_state) KX GM c 16 11 rfl rfl G16 sc__law_state ch__law_state (fun _ _ _ _ _ _ us hl => match us, hl with | [_, _], _ => rfl) (hf_cons ⟨_, rfl⟩ (hf_nil)) (hf_nil) (d__law_state rfl)
  have G18 := gx_def (sp := sp__law_case) KX GM c 17 12 rfl rfl G17 sc__law_case ch__law_case (fun _ _ _ _ _ _ us hl => match us, hl with | [_, _], _ => rfl) (hf_cons ⟨_, rfl⟩ (hf_cons ⟨_, rfl⟩ (hf_cons ⟨_, rfl⟩ (hf_cons ⟨_, rfl⟩ (hf_nil))))) (hf_nil) (d__law_case rfl rfl rfl rfl)
  have G19 := gx_def (sp := sp__law_at_least) KX GM c 18 13 rfl rfl G18 sc__law_at_least ch__law_at_least (fun _ _ _ _ _ _ us hl => match us, hl with | [_, _], _ => rfl) (hf_nil) (hf_nil) (d__law_at_least)
  have G20 := gx_def (sp := sp__law_harder) KX GM c 19 14 rfl rfl G19 sc__law_harder ch__law_harder (fun _ _ _ _ _ _ us hl => match us, hl with | [_, _, _], _ => rfl) (hf_cons ⟨_, rfl⟩ (hf_cons ⟨_, rfl⟩ (hf_nil))) (hf_nil) (d__law_harder rfl rfl)
  exact fn_okD G20 F sc_law (hf_cons ⟨_, rfl⟩ (hf_cons ⟨_, rfl⟩ (hf_cons ⟨_, rfl⟩ (hf_cons ⟨_, rfl⟩ (hf_cons ⟨_, rfl⟩ (hf_nil)))))) (fun c m e => by cases e) ch_law (d_law14 ⟨rfl, rfl, rfl, rfl, rfl⟩)
end G
open PySem PySem.W PySem.Calls PyProof.Rows
set_option maxRecDepth 100000 in
set_option maxHeartbeats 0 in
theorem PySem.Challenge.cw_goalhelm_k14_whole_nothing_gets_cheaper_holds : PySem.Challenge.rw_goalhelm_k14_whole_nothing_gets_cheaper.Holds := by
  w_on; o_law
  refine HandSHeadRun.head_any (r := OpenLaw.row PySem.Challenge.rw_goalhelm_k14_whole_nothing_gets_cheaper) (q := view (OpenLaw.row PySem.Challenge.rw_goalhelm_k14_whole_nothing_gets_cheaper).prog [21]) (H := G.hk) (ob := G.hob) (M := 6000) (loose := G.hnames) (d := HandSHeadRun.topDef (OpenLaw.row PySem.Challenge.rw_goalhelm_k14_whole_nothing_gets_cheaper).prog 21) (kwd := []) G.hob_eq
    (by kernel_rfl) (fun s => by kernel_rfl) G.hrun (by kernel_rfl) (by kernel_rfl) (by kernel_rfl) (by rfl) (by first | assumption | decide +kernel) (by decide +kernel) ⟨rfl, rfl, rfl, rfl, rfl, by decide +kernel⟩ ?hw ?hc
  case hw => w_witness2
  case hc =>
    refine L2.walk_ofE (l := PySem.Challenge.rw_goalhelm_k14_whole_nothing_gets_cheaper) (n := 63) (k := 22) (x := "script") (CX := L2.CX0) rfl (by decide) (by kernel_rfl) ⟨rfl, by decide, by decide⟩ ?F (fun _ _ _ _ z => z)
    intro w mg fa h Y GM hmg0
    obtain ⟨K, KX, c⟩ := Y
    have hmg : mg ("law" : PySem.Str) = some (.ref fa) := by
      have e : (HandSHeadRun.topDef (OpenLaw.row PySem.Challenge.rw_goalhelm_k14_whole_nothing_gets_cheaper).prog 21).name = ("law" : PySem.Str) := by kernel_rfl
      rw [← e]
      exact hmg0
    obtain ⟨fd, hb, hF⟩ := G.facts (P := (PySem.Challenge.rw_goalhelm_k14_whole_nothing_gets_cheaper).prog) (w := w) KX GM hmg c
    exact ⟨K, fd, _, KX, hb, fun H a ns hl hO hS => G.end_law hl G.tab_nil hO hS, hF⟩
#print axioms PySem.Challenge.cw_goalhelm_k14_whole_nothing_gets_cheaper_holds
